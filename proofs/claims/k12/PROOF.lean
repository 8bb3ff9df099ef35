import PyProof.Rows.All
import Wide.All
import OpenK.AllK
import Wide.FinOn
import HandS.CallSlots
import HandS.Codes
import HandS.Conv
import HandS.Deep
import HandS.Defaults
import HandS.EndTab
import HandS.ExcField
import HandS.ExcInit
import HandS.ExcIs
import HandS.ExcOwn
import HandS.ForExc
import HandS.ForMost
import HandS.Head2
import HandS.HeadEnd
import HandS.HeadHook2
import HandS.HeadHook4
import HandS.HeadWalk
import HandS.IsInst
import HandS.Iter
import HandS.Lambda
import HandS.MakeKwOnly
import HandS.NestedK
import HandS.SetFor
import HandS.Small
import HandS.SortInts
import HandS.SortKw
import HandS.StrMore
import HandS.Strs
import HandS.Style
import HandS.Text
import HandS.TupAny
import HandS.Wide
import HandS.Zip
import KE.DataCmp
import KE.DataFind
import KE.GoesEnum
import KE.KDflt
import KE.KDictKeyed
import KE.KExcIs
import KE.KLam
import KE.KUnpackStar
import KE.SortKeyHeap
import PyProof.DictUpdate
import PySem.Challenge.RW_onebreath_k12_texts_of_no_world
set_option Elab.async false
set_option linter.all false
set_option maxRecDepth 100000
set_option maxHeartbeats 4000000
namespace Sm
open PySem L2

/-- a lambda: its number in its def, what is written, the cells that it holds, its default -/
structure LamD where
  id : Nat
  q : Str
  params : Arguments
  body : Expr
  scope : Scope
  cl : List (Str × Addr)
  dv : Option Int
abbrev objL (q : Str) (params : Arguments) (body : Expr) (scope : Scope) (cl : List (Str × Addr)) (pm doc : Value) (c' : Addr) (ctv dv : Value) : Obj := PySem.W.kdv_obj "<lambda>" q params (.expr body) scope cl dv doc pm c' ctv
/-- a lambda's object stands at f -/
def LmO (f : Addr) (q : Str) (params : Arguments) (body : Expr) (scope : Scope) (cl : List (Str × Addr)) (c' : Addr) (dv : Value) : HO := .ext fun h => ∃ pm doc ctv : Value, h.get? f = some (objL q params body scope cl pm doc c' ctv dv)
def LamAt (H : Hp) (l : LamD) (f : Addr) : Prop := ∃ (c' : Addr) (dv : Value), H f = some (LmO f l.q l.params l.body l.scope l.cl c' dv) ∧ H c' = some (LamX.CodeO c' l.q) ∧ match l.dv with
  | none => dv = .none
  | some i => ∃ t, dv = .ref t ∧ H t = some (.tup [.int i])
/-! ### values, states -/
inductive Val where
  | non | bl (b : Bool) | int (i : Int) | str (s : Str) | tup (vs : List Val) | lst (vs : List Val) | scr (vs : List Val) | ref (n : Nat) | ty (n : String) | adr (a : Addr) (d : Option Addr) (ns : List Str) (vs : List Val) | ktup (vs : List Val) | lam (l : LamD)
inductive T where
  | val (v : Val) | own (vs : List Val) | loc (i : Nat)
inductive Sl where
  | no | val (v : Val) | own (vs : List Val)
inductive Ob where
  | lst (vs : List Val) | dic (kvs : List (Val × Val)) | ins (C : Str) (fs : List (Str × Val)) | dk (kvs : List (Key × Val)) | dn (kvs : List (NestedKey × Val))
/-- the defs that may hold lambdas; the tables of their code objects, by the written part -/
def lamDefs : List Str := ["in_turn", "law", "_law_refusals", "_law_told", "_law_known", "_law_store", "_law_turn_of"]
def lamGd (K : PySem.W.Frag) (x : Str) : Bool := PySem.W.codeHdIn K (He.cT K (x, none)).1 (He.cT K (x, none)).2
def tbl (K : PySem.W.Frag) : List (Addr × Str) := (lamDefs.filter (lamGd K)).map fun x => ((He.cT K (x, none)).2, x ++ ".<locals>." ++ "<lambda>")
structure MS where
  hp : List Ob
  sl : List Sl
structure Exc where
  cls : Str
  fs : List (Str × Val)
inductive Out (α : Type) where
  | ok (a : α) (s : MS) | exc (e : Exc) (s : MS) | bad
abbrev M (α : Type) := MS → Out α
@[reducible] def Out.bind {α β : Type} (r : Out α) (k : α → M β) : Out β := match r with
  | .ok a s => k a s
  | .exc e s => .exc e s
  | .bad => .bad

/-! ### the ghost, the relations -/
structure G where
  rho : Nat → Option Addr
  S : Addr → Prop
  O : Nat → Option Addr
/-- a list of the written part -/
def SqK (K : PySem.W.Frag) (a : Addr) (xs : List V) : Prop := ∃ (o : Obj) (its : Array Value) (n : Nat), K.lookup a = some o ∧ o.cls = .type "list" ∧ o.dict = none ∧ o.data = .seq its n ∧ its.size ≤ sizeLine ∧ Vals xs its.toList
/-- a tuple of the written part -/
def SqTK (K : PySem.W.Frag) (a : Addr) (xs : List V) : Prop := ∃ (o : Obj) (its : Array Value) (n : Nat), K.lookup a = some o ∧ o.cls = .type "tuple" ∧ o.data = .seq its n ∧ its.size ≤ sizeLine ∧ Vals xs its.toList
/-- a list that nobody changes -/
def Stab (K : PySem.W.Frag) (g : G) (H : Hp) (a : Addr) (xs : List V) : Prop := (g.S a ∧ Rd H a (.lst xs)) ∨ SqK K a xs
theorem Stab.sq {K : PySem.W.Frag} {g : G} {H : Hp} {a : Addr} {xs : List V} (h : Stab K g H a xs) : SqL K H a xs := h.elim (fun h => .inl h.2) .inr
mutual
def VR (K : PySem.W.Frag) (g : G) (H : Hp) : Val → V → Prop
  | .non, w => w = .non
  | .bl b, w => w = .bl b
  | .int i, w => w = .int i
  | .str s, w => w = .str s
  | .tup vs, w => ∃ a ws, w = .ref a ∧ H a = some (.tup ws) ∧ VRs K g H vs ws
  | .ktup vs, w => ∃ a ws, w = .ref a ∧ SqTK K a ws ∧ VRs K g H vs ws
  | .lst vs, w => ∃ a ws, w = .ref a ∧ g.S a ∧ H a = some (.lst ws) ∧ VRs K g H vs ws
  | .scr vs, w => ∃ a ws, w = .ref a ∧ Stab K g H a ws ∧ VRs K g H vs ws
  | .ref n, w => ∃ a, g.rho n = some a ∧ w = .ref a
  | .ty n, w => w = .ty n
  | .adr a d ns vs, w => w = .ref a ∧ ((d = none ∧ ns = [] ∧ vs = []) ∨ ∃ p ws, d = some p ∧ H p = some (.xd ws) ∧ ws.map (·.1) = ns ∧ VRs K g H vs (ws.map (·.2)))
  | .lam l, w => ∃ f, w = .ref f ∧ LamAt H l f
def VRs (K : PySem.W.Frag) (g : G) (H : Hp) : List Val → List V → Prop
  | [], ws => ws = []
  | v :: vs, ws => ∃ w r, ws = w :: r ∧ VR K g H v w ∧ VRs K g H vs r
end
mutual
/-- a value as a key -/
def keyN : Val → Option NestedKey
  | .non => some .none
  | .bl b => some (.num (if b = true then 1 else 0))
  | .int i => some (.num i)
  | .tup vs => (keyNs vs).map .tup
  | _ => none
def keyNs : List Val → Option (List NestedKey)
  | [] => some []
  | v :: vs => match keyN v with
    | some k => (keyNs vs).map (k :: ·)
    | none => none
end
mutual
/-- no text in it -/
def nkT : NestedKey → Bool
  | .none => true
  | .num _ => true
  | .text _ => false
  | .tup ks => nkTs ks
def nkTs : List NestedKey → Bool
  | [] => true
  | k :: ks => nkT k && nkTs ks
end
/-- at a a dict with nested keys; xs: its keys, where they stand, its values -/
def DN (a : Addr) (xs : List (NestedKey × Addr × V)) : HO := .ext fun h => (∀ x ∈ xs, nkT x.1 = true) ∧ (a == sysModules) = false ∧ xs.length ≤ sizeLine ∧ ∃ (us : List (NestedKey × Addr × Value)) (o : Obj) (es : Array DictEntry) (ep : Nat),
  Paired (fun (p : NestedKey × Addr × V) (q : NestedKey × Addr × Value) => p.1 = q.1 ∧ p.2.1 = q.2.1 ∧ RelV p.2.2 q.2.2) xs us ∧ h.get? a = some o ∧ o.ExactDict ∧ o.data = .dict es ep ∧
  (∀ (P : Program) (w : World), es.toList = us.map (entryOfKey (nestedKind P w))) ∧ (us.map (·.1)).Nodup
def kVal : Key → Val
  | .inl i => .int i
  | .inr x => .str x
def OR (K : PySem.W.Frag) (g : G) (H : Hp) : Ob → Addr → Prop
  | .lst vs, a => ∃ ws, H a = some (.lst ws) ∧ VRs K g H vs ws
  | .dic kvs, a => ∃ kk : List (List Key × V), H a = some (.dT kk) ∧ Paired (fun (p : Val × Val) (q : List Key × V) => p.1 = .tup (q.1.map kVal) ∧ VR K g H p.2 q.2) kvs kk
  | .ins C fs, a => ∃ dx ws, H a = some (.ins (He.ga K C) dx ws) ∧ Paired (fun (p q : Str × _) => p.1 = q.1 ∧ VR K g H p.2 q.2) fs ws
  | .dk kvs, a => ∃ kk : List (Key × V), H a = some (.dK kk) ∧ Paired (fun (p q : Key × _) => p.1 = q.1 ∧ VR K g H p.2 q.2) kvs kk
  | .dn kvs, a => ∃ xs : List (NestedKey × Addr × V), H a = some (DN a xs) ∧ Paired (fun (p : NestedKey × Val) (q : NestedKey × Addr × V) => (p.1 = q.1 ∧ p.1.depth ≤ 8) ∧ (∃ v, keyN v = some p.1 ∧ VR K g H v (.ref q.2.1)) ∧ VR K g H p.2 q.2.2) kvs xs
structure RH (K : PySem.W.Frag) (g : G) (hp : List Ob) (H : Hp) : Prop where
  dom : ∀ n a, g.rho n = some a → n < hp.length
  ob : ∀ n o, hp[n]? = some o → ∃ a, g.rho n = some a ∧ OR K g H o a
  inj : ∀ n m a, g.rho n = some a → g.rho m = some a → n = m
  sr : ∀ n a, g.rho n = some a → ¬ g.S a
  sa : ∀ a, g.S a → ¬ H a = none
  tb : LamX.Tabs (tbl K) H
structure R (K : PySem.W.Frag) (g : G) (st : MS) (σ : L2.St) (H : Hp) : Prop extends RH K g st.hp H where
  len : st.sl.length = σ.length
  vl : ∀ (i : Nat) (v : Val), st.sl[i]? = some (Sl.val v) → ∃ w, σ[i]? = some (some w) ∧ VR K g H v w
  ow : ∀ (i : Nat) (vs : List Val), st.sl[i]? = some (Sl.own vs) → ∃ a ws, g.O i = some a ∧ σ[i]? = some (some (.ref a)) ∧ H a = some (.lst ws) ∧ VRs K g H vs ws
  oi : ∀ (i : Nat) (a : Addr), g.O i = some a → (∃ vs, st.sl[i]? = some (Sl.own vs)) ∧ ¬ g.S a ∧ ∀ n, g.rho n ≠ some a
  oinj : ∀ i j a, g.O i = some a → g.O j = some a → i = j

/-- the world goes on -/
structure Ext (g : G) (H : Hp) (g' : G) (H' : Hp) : Prop where
  rho : ∀ n a, g.rho n = some a → g'.rho n = some a
  s : ∀ a, g.S a → g'.S a
  fr : ∀ a o, H a = some o → (∀ ps, o ≠ .tbl ps) → (∀ n, g.rho n ≠ some a) → (∀ i, g.O i ≠ some a) → H' a = some o
  nn : ∀ a, H' a = none → H a = none
  rhoN : ∀ n a, g'.rho n = some a → g.rho n = some a ∨ H a = none ∨ ∃ i, g.O i = some a
  sN : ∀ a, g'.S a → g.S a ∨ H a = none ∨ ∃ i, g.O i = some a
  oN : ∀ i a, g'.O i = some a → (∃ j, g.O j = some a) ∨ H a = none
theorem Ext.refl {g : G} {H : Hp} : Ext g H g H := ⟨fun _ _ h => h, fun _ h => h, fun _ _ h _ _ _ => h, fun _ h => h, fun _ _ h => .inl h, fun _ h => .inl h, fun i _ h => .inl ⟨i, h⟩⟩
theorem Ext.trans {g g1 g2 : G} {H H1 H2 : Hp} (a : Ext g H g1 H1) (b : Ext g1 H1 g2 H2) : Ext g H g2 H2 where
  rho := fun n x h => b.rho n x (a.rho n x h)
  s := fun x h => b.s x (a.s x h)
  fr := fun x o h t hr ho => by
    refine b.fr x o (a.fr x o h t hr ho) t (fun n e => ?_) (fun i e => ?_)
    · rcases a.rhoN n x e with q | q | ⟨i, q⟩
      · exact hr n q
      · rw [h] at q; cases q
      · exact ho i q
    · rcases a.oN i x e with ⟨j, q⟩ | q
      · exact ho j q
      · rw [h] at q; cases q
  nn := fun x h => a.nn x (b.nn x h)
  rhoN := fun n x h => by
    rcases b.rhoN n x h with q | q | ⟨i, q⟩
    · exact a.rhoN n x q
    · exact .inr (.inl (a.nn x q))
    · rcases a.oN i x q with q | q
      · exact .inr (.inr q)
      · exact .inr (.inl q)
  sN := fun x h => by
    rcases b.sN x h with q | q | ⟨i, q⟩
    · exact a.sN x q
    · exact .inr (.inl (a.nn x q))
    · rcases a.oN i x q with q | q
      · exact .inr (.inr q)
      · exact .inr (.inl q)
  oN := fun i x h => by
    rcases b.oN i x h with ⟨j, q⟩ | q
    · exact a.oN j x q
    · exact .inr (a.nn x q)
def NoX (H : Hp) (a : Addr) : Prop := (∀ q, H a ≠ some (LamX.CodeO a q)) ∧ (∀ q p b s cl c' dv, H a ≠ some (LmO a q p b s cl c' dv)) ∧ ∀ ws, H a ≠ some (.xd ws)
/-- what a ghost's addresses are -/
structure Wf (g : G) (H : Hp) : Prop where
  rt : ∀ n a, g.rho n = some a → Mut (H a)
  ot : ∀ i a, g.O i = some a → Mut (H a)
  sr : ∀ n a, g.rho n = some a → ¬ g.S a
  so : ∀ i a, g.O i = some a → ¬ g.S a
  sa : ∀ a, g.S a → ¬ H a = none
  rx : ∀ n a, g.rho n = some a → NoX H a
  ox : ∀ i a, g.O i = some a → NoX H a
section
variable {K : PySem.W.Frag} {g g' : G} {H H' : Hp} {st : MS} {σ : L2.St}
theorem OR.mut {o : Ob} {a : Addr} (h : OR K g H o a) : Mut (H a) := by
  cases o with
  | lst vs => obtain ⟨ws, e, _⟩ := h; rw [e]; exact True.intro
  | dic _ => obtain ⟨ws, e, _⟩ := h; rw [e]; exact True.intro
  | ins _ _ => obtain ⟨_, ws, e, _⟩ := h; rw [e]; exact True.intro
  | dk _ => obtain ⟨ws, e, _⟩ := h; rw [e]; exact True.intro
  | dn _ => obtain ⟨ws, e, _⟩ := h; rw [e]; exact True.intro
/-- a heap of n objects o -/
def hRep (o : Obj) : Nat → Heap
  | 0 => { objs := #[] }
  | n + 1 => (hRep o n).push o
theorem hRep_size (o : Obj) : ∀ n, (hRep o n).objs.size = n
  | 0 => rfl
  | n + 1 => by unfold hRep; rw [Heap.size_push, hRep_size o n]
theorem dn_noCode {a : Addr} {xs : List (NestedKey × Addr × V)} {q : Str} : DN a xs ≠ LamX.CodeO a q := fun z => by
  unfold DN LamX.CodeO at z
  injection z with z
  let o : Obj := { cls := .none, data := .fields #[.none, .str q 0] }
  have h1 : (hRep o (a + 1)).get? a = some o := by
    have := Heap.get?_push_size (hRep o a) (o := o) rfl
    rw [hRep_size] at this
    exact this
  have h2 := congrFun z (hRep o (a + 1))
  have h3 : ∃ (oc : Obj) (vs : Array Value) (t : Tok), (hRep o (a + 1)).get? a = some oc ∧ oc.data = .fields vs ∧ vs[1]? = some (.str q t) := ⟨o, _, 0, h1, rfl, rfl⟩
  rw [← h2] at h3
  obtain ⟨_, _, _, us, o', es, ep, _, k1, _, k2, _⟩ := h3
  rw [h1] at k1
  cases k1
  cases k2
theorem dn_noLam {a : Addr} {xs : List (NestedKey × Addr × V)} {q p b s cl c' dv} : DN a xs ≠ LmO a q p b s cl c' dv := fun z => by
  unfold DN LmO at z
  injection z with z
  have h1 : (hRep (objL q p b s cl .none .none c' .none dv) (a + 1)).get? a = some (objL q p b s cl .none .none c' .none dv) := by
    have := Heap.get?_push_size (hRep (objL q p b s cl .none .none c' .none dv) a) (o := objL q p b s cl .none .none c' .none dv) rfl
    rw [hRep_size] at this
    exact this
  have h2 := congrFun z (hRep (objL q p b s cl .none .none c' .none dv) (a + 1))
  have h3 : ∃ pm doc ctv : Value, (hRep (objL q p b s cl .none .none c' .none dv) (a + 1)).get? a = some (objL q p b s cl pm doc c' ctv dv) := ⟨_, _, _, h1⟩
  rw [← h2] at h3
  obtain ⟨_, _, _, us, o', es, ep, _, k1, _, k2, _⟩ := h3
  rw [h1] at k1
  cases k1
  cases k2
theorem OR.noCode {o : Ob} {a : Addr} (h : OR K g H o a) (q : Str) : H a ≠ some (LamX.CodeO a q) := fun z => by
  cases o with
  | lst vs => obtain ⟨ws, e, _⟩ := h; rw [e] at z; cases z
  | dic _ => obtain ⟨ws, e, _⟩ := h; rw [e] at z; cases z
  | ins _ _ => obtain ⟨_, ws, e, _⟩ := h; rw [e] at z; cases z
  | dk _ => obtain ⟨ws, e, _⟩ := h; rw [e] at z; cases z
  | dn _ => obtain ⟨ws, e, _⟩ := h; rw [e] at z; exact dn_noCode (Option.some.inj z)
theorem OR.noX {o : Ob} {a : Addr} (h : OR K g H o a) : NoX H a := ⟨h.noCode, fun q p b s cl c' dv z => by
  cases o with
  | lst vs => obtain ⟨ws, e, _⟩ := h; rw [e] at z; cases z
  | dic _ => obtain ⟨ws, e, _⟩ := h; rw [e] at z; cases z
  | ins _ _ => obtain ⟨_, ws, e, _⟩ := h; rw [e] at z; cases z
  | dk _ => obtain ⟨ws, e, _⟩ := h; rw [e] at z; cases z
  | dn _ => obtain ⟨ws, e, _⟩ := h; rw [e] at z; exact dn_noLam (Option.some.inj z), fun ws z => by
  cases o with
  | lst vs => obtain ⟨ws, e, _⟩ := h; rw [e] at z; cases z
  | dic _ => obtain ⟨ws, e, _⟩ := h; rw [e] at z; cases z
  | ins _ _ => obtain ⟨_, ws, e, _⟩ := h; rw [e] at z; cases z
  | dk _ => obtain ⟨ws, e, _⟩ := h; rw [e] at z; cases z
  | dn _ => obtain ⟨ws, e, _⟩ := h; rw [e] at z; cases z⟩
theorem noX_lst {a : Addr} {ws : List V} (h : H a = some (.lst ws)) : NoX H a := ⟨(fun q z => by rw [h] at z; cases z), (fun q p b s cl c' dv z => by rw [h] at z; cases z), (fun ws z => by rw [h] at z; cases z)⟩
theorem tabs_upd {T : List (Addr × Str)} {a : Addr} {u : HO} (t : LamX.Tabs T H) (m : Mut (H a)) (hn : ∀ q, H a ≠ some (LamX.CodeO a q)) : LamX.Tabs T (upd H a u) := fun p hp => by
  obtain ⟨ps, h1, h2, h3⟩ := t p hp
  refine ⟨ps, by rw [upd_ne (fun z => by rw [← z, h1] at m; exact m)]; exact h1, h2, fun pos cv hc => ?_⟩
  obtain ⟨c, e1, e2⟩ := h3 pos cv hc
  exact ⟨c, e1, by rw [upd_ne (fun z => by rw [z] at e2; exact hn _ e2)]; exact e2⟩
theorem prd_map {α β : Type} {F G : α → β → Prop} (h : ∀ a b, F a b → G a b) : ∀ {l₁ : List α} {l₂ : List β}, Paired F l₁ l₂ → Paired G l₁ l₂
  | _, _, .nil => .nil
  | _, _, .cons r t => .cons (h _ _ r) (prd_map h t)
theorem VRs.imp (h : ∀ v w, VR K g H v w → VR K g' H' v w) : ∀ {vs : List Val} {ws : List V}, VRs K g H vs ws → VRs K g' H' vs ws
  | [], ws, q => by unfold VRs at q ⊢; exact q
  | v :: vs, ws, q => by
    unfold VRs at q ⊢
    obtain ⟨w, r, h1, h2, h3⟩ := q
    exact ⟨w, r, h1, h _ _ h2, VRs.imp h h3⟩
theorem OR.imp {o : Ob} {a : Addr} (h : ∀ v w, VR K g H v w → VR K g' H' v w) (e : H' a = H a) (q : OR K g H o a) : OR K g' H' o a := by
  cases o with
  | lst vs => obtain ⟨ws, k, z⟩ := q; exact ⟨ws, e.trans k, z.imp h⟩
  | dic kvs => obtain ⟨ws, k, z⟩ := q; exact ⟨ws, e.trans k, prd_map (fun _ _ y => ⟨y.1, h _ _ y.2⟩) z⟩
  | ins C fs => obtain ⟨dx, ws, k, z⟩ := q; exact ⟨dx, ws, e.trans k, prd_map (fun _ _ y => ⟨y.1, h _ _ y.2⟩) z⟩
  | dk kvs => obtain ⟨ws, k, z⟩ := q; exact ⟨ws, e.trans k, prd_map (fun _ _ y => ⟨y.1, h _ _ y.2⟩) z⟩
  | dn kvs => obtain ⟨ws, k, z⟩ := q; exact ⟨ws, e.trans k, prd_map (fun _ _ ⟨y1, ⟨v, y2, y3⟩, y4⟩ => ⟨y1, ⟨v, y2, h _ _ y3⟩, h _ _ y4⟩) z⟩
theorem OR.there {o : Ob} {a : Addr} (q : OR K g H o a) : ∃ u, H a = some u := by
  cases o with
  | lst vs => obtain ⟨ws, k, z⟩ := q; exact ⟨_, k⟩
  | dic kvs => obtain ⟨ws, k, z⟩ := q; exact ⟨_, k⟩
  | ins C fs => obtain ⟨dx, ws, k, z⟩ := q; exact ⟨_, k⟩
  | dk kvs => obtain ⟨ws, k, z⟩ := q; exact ⟨_, k⟩
  | dn kvs => obtain ⟨ws, k, z⟩ := q; exact ⟨_, k⟩
theorem RH.rt {hp : List Ob} (r : RH K g hp H) : ∀ n a, g.rho n = some a → Mut (H a) := fun n a e => by
  have hn := r.dom n a e
  obtain ⟨b, e', o⟩ := r.ob n hp[n] (List.getElem?_eq_getElem hn)
  rw [e] at e'; cases e'
  exact o.mut
theorem RH.rx {hp : List Ob} (r : RH K g hp H) : ∀ n a, g.rho n = some a → NoX H a := fun n a e => by
  have hn := r.dom n a e
  obtain ⟨b, e', o⟩ := r.ob n hp[n] (List.getElem?_eq_getElem hn)
  rw [e] at e'; cases e'
  exact o.noX
theorem RH.wf {hp : List Ob} (r : RH K g hp H) (ho : ∀ i, g.O i = none) : Wf g H :=
  ⟨r.rt, fun i a e => (by rw [ho i] at e; cases e), r.sr, fun i a e => (by rw [ho i] at e; cases e), r.sa, r.rx, fun i a e => (by rw [ho i] at e; cases e)⟩
theorem R.wf (r : R K g st σ H) : Wf g H :=
  ⟨r.toRH.rt, fun i a e => by
    obtain ⟨⟨vs, q⟩, _⟩ := r.oi i a e
    obtain ⟨b, ws, e', _, e2, _⟩ := r.ow i vs q
    rw [e] at e'; cases e'
    rw [e2]; exact True.intro, r.sr, fun i a e => (r.oi i a e).2.1, r.sa, r.toRH.rx, fun i a e => by
    obtain ⟨⟨vs, q⟩, _⟩ := r.oi i a e
    obtain ⟨b, ws, e', _, e2, _⟩ := r.ow i vs q
    rw [e] at e'; cases e'
    exact noX_lst e2⟩
theorem tup_ext {a : Addr} {ws : List V} (w : Wf g H) (e : Ext g H g' H') (h : H a = some (.tup ws)) : H' a = some (.tup ws) := by
  refine e.fr a _ h (fun _ z => nomatch z) (fun n q => ?_) fun i q => ?_
  · have := w.rt n a q; rw [h] at this; exact this
  · have := w.ot i a q; rw [h] at this; exact this
theorem LamAt.ext {l : LamD} {f : Addr} (w : Wf g H) (e : Ext g H g' H') (h : LamAt H l f) : LamAt H' l f := by
  obtain ⟨c', dv, h1, h2, h3⟩ := h
  refine ⟨c', dv, e.fr f _ h1 (fun _ z => nomatch z) (fun n q => (w.rx n f q).2.1 _ _ _ _ _ _ _ h1) (fun i q => (w.ox i f q).2.1 _ _ _ _ _ _ _ h1), e.fr c' _ h2 (fun _ z => nomatch z) (fun n q => (w.rx n c' q).1 _ h2) (fun i q => (w.ox i c' q).1 _ h2), ?_⟩
  split at h3
  · exact h3
  · obtain ⟨t, e1, e2⟩ := h3
    exact ⟨t, e1, tup_ext w e e2⟩
theorem Stab.ext {a : Addr} {ws : List V} (w : Wf g H) (e : Ext g H g' H') (h : Stab K g H a ws) : Stab K g' H' a ws := by
  rcases h with ⟨hs, h | ⟨o, h⟩⟩ | h
  · exact .inl ⟨e.s a hs, .inl (e.fr a _ h (fun _ z => nomatch z) (fun n q => w.sr n a q hs) fun i q => w.so i a q hs)⟩
  · exact .inl ⟨e.s a hs, .inr ⟨o, e.fr a _ h (fun _ z => nomatch z) (fun n q => w.sr n a q hs) fun i q => w.so i a q hs⟩⟩
  · exact .inr h
mutual
theorem VR.ext (w : Wf g H) (e : Ext g H g' H') : ∀ (v : Val) (x : V), VR K g H v x → VR K g' H' v x
  | .non, x, h => by unfold VR at h ⊢; exact h
  | .bl b, x, h => by unfold VR at h ⊢; exact h
  | .int i, x, h => by unfold VR at h ⊢; exact h
  | .str s, x, h => by unfold VR at h ⊢; exact h
  | .ty s, x, h => by unfold VR at h ⊢; exact h
  | .adr s d ns vs, x, h => by
    unfold VR at h ⊢
    obtain ⟨h1, h2 | ⟨p, ws, h2, h3, h4, h5⟩⟩ := h
    · exact ⟨h1, .inl h2⟩
    · exact ⟨h1, .inr ⟨p, ws, h2, e.fr p _ h3 (fun _ z => nomatch z) (fun n q => (w.rx n p q).2.2 _ h3) (fun i q => (w.ox i p q).2.2 _ h3), h4, VRs.ext w e vs _ h5⟩⟩
  | .lam l, x, h => by
    unfold VR at h ⊢
    obtain ⟨f, h1, h2⟩ := h
    exact ⟨f, h1, h2.ext w e⟩
  | .tup vs, x, h => by
    unfold VR at h ⊢
    obtain ⟨a, ws, h1, h2, h3⟩ := h
    exact ⟨a, ws, h1, tup_ext w e h2, VRs.ext w e vs ws h3⟩
  | .ktup vs, x, h => by
    unfold VR at h ⊢
    obtain ⟨a, ws, h1, h2, h3⟩ := h
    exact ⟨a, ws, h1, h2, VRs.ext w e vs ws h3⟩
  | .lst vs, x, h => by
    unfold VR at h ⊢
    obtain ⟨a, ws, h1, hs, h2, h3⟩ := h
    exact ⟨a, ws, h1, e.s a hs, e.fr a _ h2 (fun _ z => nomatch z) (fun n q => w.sr n a q hs) (fun i q => w.so i a q hs), VRs.ext w e vs ws h3⟩
  | .scr vs, x, h => by
    unfold VR at h ⊢
    obtain ⟨a, ws, h1, h2, h3⟩ := h
    exact ⟨a, ws, h1, h2.ext w e, VRs.ext w e vs ws h3⟩
  | .ref n, x, h => by
    unfold VR at h ⊢
    obtain ⟨a, h1, h2⟩ := h
    exact ⟨a, e.rho n a h1, h2⟩
theorem VRs.ext (w : Wf g H) (e : Ext g H g' H') : ∀ (vs : List Val) (xs : List V), VRs K g H vs xs → VRs K g' H' vs xs
  | [], x, h => by unfold VRs at h ⊢; exact h
  | v :: vs, x, h => by
    unfold VRs at h ⊢
    obtain ⟨a, r, h1, h2, h3⟩ := h
    exact ⟨a, r, h1, VR.ext w e v a h2, VRs.ext w e vs r h3⟩
end
/-- new objects alone -/
def Add (H H' : Hp) : Prop := ∀ a o, H a = some o → H' a = some o
theorem Add.refl : Add H H := fun _ _ h => h
theorem Add.trans {H1 H2 : Hp} (a : Add H H1) (b : Add H1 H2) : Add H H2 := fun x o h => b x o (a x o h)
theorem Add.nn (d : Add H H') : ∀ a, H' a = none → H a = none := fun a h => by
  cases q : H a with
  | none => rfl
  | some o => rw [d a o q] at h; cases h
theorem Add.upd {p : Addr} {o : HO} (h : H p = none) : Add H (upd H p o) := fun a x e => by
  rw [upd_ne (ne_of_none e h)]; exact e
theorem Add.ext (d : Add H H') : Ext g H g H' := ⟨fun _ _ h => h, fun _ h => h, fun a o h _ _ _ => d a o h, d.nn, fun _ _ h => .inl h, fun _ h => .inl h, fun i _ h => .inl ⟨i, h⟩⟩
theorem RH.add {hp : List Ob} (r : RH K g hp H) (w : Wf g H) (d : Add H H') : RH K g hp H' :=
  ⟨r.dom, fun n o h => by
    obtain ⟨a, h1, h2⟩ := r.ob n o h
    obtain ⟨u, hu⟩ := h2.there
    exact ⟨a, h1, h2.imp (VR.ext w d.ext) ((d _ _ hu).trans hu.symm)⟩, r.inj, r.sr, fun a h z => r.sa a h (d.nn a z), r.tb.ext d⟩
theorem R.add (r : R K g st σ H) (d : Add H H') : R K g st σ H' :=
  { toRH := r.toRH.add r.wf d, len := r.len,
    vl := fun i v h => let ⟨w, h1, h2⟩ := r.vl i v h; ⟨w, h1, VR.ext r.wf d.ext _ _ h2⟩,
    ow := fun i vs h => let ⟨a, ws, h1, h2, h3, h4⟩ := r.ow i vs h; ⟨a, ws, h1, h2, d _ _ h3, VRs.ext r.wf d.ext _ _ h4⟩,
    oi := r.oi, oinj := r.oinj }
theorem VRs.length : ∀ {vs : List Val} {ws : List V}, VRs K g H vs ws → vs.length = ws.length
  | [], ws, h => by unfold VRs at h; subst h; rfl
  | v :: vs, ws, h => by
    unfold VRs at h
    obtain ⟨w, r, rfl, _, h⟩ := h
    simp only [List.length_cons, VRs.length h]
theorem VRs.get : ∀ {vs : List Val} {ws : List V} {i : Nat} {v : Val}, VRs K g H vs ws → vs[i]? = some v → ∃ w, ws[i]? = some w ∧ VR K g H v w
  | [], _, _, _, _, e => by simp at e
  | v :: vs, ws, 0, _, h, e => by
    unfold VRs at h
    obtain ⟨w, r, rfl, h1, _⟩ := h
    simp at e; subst e
    exact ⟨w, rfl, h1⟩
  | v :: vs, ws, i + 1, _, h, e => by
    unfold VRs at h
    obtain ⟨w, r, rfl, _, h⟩ := h
    simpa using VRs.get (i := i) h (by simpa using e)
theorem VRs.get' : ∀ {vs : List Val} {ws : List V} {i : Nat} {w : V}, VRs K g H vs ws → ws[i]? = some w → ∃ v, vs[i]? = some v ∧ VR K g H v w
  | [], ws, _, _, h, e => by unfold VRs at h; subst h; simp at e
  | v :: vs, ws, 0, _, h, e => by
    unfold VRs at h
    obtain ⟨w, r, rfl, h1, _⟩ := h
    simp at e; subst e
    exact ⟨v, rfl, h1⟩
  | v :: vs, ws, i + 1, _, h, e => by
    unfold VRs at h
    obtain ⟨w, r, rfl, _, h⟩ := h
    simpa using VRs.get' (i := i) h (by simpa using e)
theorem VRs.app : ∀ {vs us : List Val} {ws xs : List V}, VRs K g H vs ws → VRs K g H us xs → VRs K g H (vs ++ us) (ws ++ xs)
  | [], us, ws, xs, h, h' => by unfold VRs at h; subst h; exact h'
  | v :: vs, us, ws, xs, h, h' => by
    unfold VRs at h
    obtain ⟨w, r, rfl, h1, h2⟩ := h
    show VRs K g H (v :: (vs ++ us)) (w :: (r ++ xs))
    unfold VRs
    exact ⟨w, _, rfl, h1, VRs.app h2 h'⟩
theorem VRs.cons {v : Val} {w : V} {vs : List Val} {ws : List V} (h : VR K g H v w) (t : VRs K g H vs ws) : VRs K g H (v :: vs) (w :: ws) := by
  unfold VRs; exact ⟨w, ws, rfl, h, t⟩
theorem VRs.nil : VRs K g H [] [] := by unfold VRs; rfl
theorem VRs.set {v : Val} {w : V} (h : VR K g H v w) : ∀ {vs : List Val} {ws : List V} (i : Nat), VRs K g H vs ws → VRs K g H (vs.set i v) (ws.set i w)
  | [], ws, i, t => by unfold VRs at t; subst t; exact VRs.nil
  | u :: vs, ws, 0, t => by
    unfold VRs at t
    obtain ⟨x, r, rfl, _, t⟩ := t
    exact VRs.cons h t
  | u :: vs, ws, i + 1, t => by
    unfold VRs at t
    obtain ⟨x, r, rfl, h1, t⟩ := t
    exact VRs.cons h1 (VRs.set h i t)
theorem VRs.drop : ∀ {vs : List Val} {ws : List V} (n : Nat), VRs K g H vs ws → VRs K g H (vs.drop n) (ws.drop n)
  | _, _, 0, t => t
  | [], ws, n + 1, t => by unfold VRs at t; subst t; exact VRs.nil
  | u :: vs, ws, n + 1, t => by
    unfold VRs at t
    obtain ⟨x, r, rfl, _, t⟩ := t
    exact VRs.drop n t
theorem VRs.take : ∀ {vs : List Val} {ws : List V} (n : Nat), VRs K g H vs ws → VRs K g H (vs.take n) (ws.take n)
  | _, _, 0, t => VRs.nil
  | [], ws, n + 1, t => by unfold VRs at t; subst t; exact VRs.nil
  | u :: vs, ws, n + 1, t => by
    unfold VRs at t
    obtain ⟨x, r, rfl, h, t⟩ := t
    exact VRs.cons h (VRs.take n t)
end
/-! ### results of an expression -/
def TR (K : PySem.W.Frag) (g0 : G) (H0 : Hp) (g : G) (H : Hp) (σ : L2.St) : T → V → Prop
  | .val v, w => VR K g H v w
  | .own vs, w => ∃ a ws, w = .ref a ∧ H a = some (.lst ws) ∧ VRs K g H vs ws ∧ ¬ g.S a ∧ (∀ n, g.rho n ≠ some a) ∧ (∀ i, g.O i ≠ some a) ∧ (H0 a = none ∨ ∃ i, g0.O i = some a)
  | .loc i, w => σ[i]? = some (some w)
abbrev RelT (β γ : Type) := G → Hp → G → Hp → L2.St → β → γ → Prop
def XR (K : PySem.W.Frag) (mg : Str → Option Value) (g : G) (H : Hp) (e : Exc) (cls : Value) (d : Option Addr) : Prop :=
  mg e.cls = some cls ∧ match e.fs with
    | [] => d = none
    | fs => ∃ p ws, d = some p ∧ H p = some (.xd ws) ∧ ws.map (·.1) = fs.map (·.1) ∧ VRs K g H (fs.map (·.2)) (ws.map (·.2))
def Pst {α γ : Type} (K : PySem.W.Frag) (mg : Str → Option Value) (W : WX) (Rel : RelT α γ) (g : G) (H : Hp) (σ : L2.St) (r : Out α) (Q : γ → Hp → Prop) : Prop := match r with
  | .ok t st' => ∀ g' w H', Ext g H g' H' → R K g' st' σ H' → Rel g H g' H' σ t w → Q w H'
  | .exc e st' => ∀ g' cls d H', Ext g H g' H' → R K g' st' σ H' → XR K mg g' H' e cls d → W cls d σ H'
  | .bad => False
/-- Rel is kept, and leans little on its start -/
structure RelOk {α γ : Type} (Rel : RelT α γ) : Prop where
  sh : ∀ {g H g1 H1 g' H' σ t w}, Ext g H g1 H1 → Rel g1 H1 g' H' σ t w → Rel g H g' H' σ t w
  ext : ∀ {g0 H0 g H g' H' σ t w}, Wf g H → Ext g H g' H' → Rel g0 H0 g H σ t w → Rel g0 H0 g' H' σ t w
theorem TR.rel {K : PySem.W.Frag} : RelOk (TR K) where
  sh := fun {g H g1 H1 g' H' σ t w} e h => by
    cases t with
    | val v => exact h
    | loc i => exact h
    | own vs =>
      obtain ⟨a, ws, h1, h2, h3, h4, h5, h6, h7⟩ := h
      refine ⟨a, ws, h1, h2, h3, h4, h5, h6, ?_⟩
      rcases h7 with q | ⟨i, q⟩
      · exact .inl (e.nn a q)
      · rcases e.oN i a q with q | q
        · exact .inr q
        · exact .inl q
  ext := fun {g0 H0 g H g' H' σ t w} wf e h => by
    cases t with
    | val v => exact VR.ext wf e _ _ h
    | loc i => exact h
    | own vs =>
      obtain ⟨a, ws, h1, h2, h3, h4, h5, h6, h7⟩ := h
      refine ⟨a, ws, h1, e.fr a _ h2 (fun _ z => nomatch z) h5 h6, VRs.ext wf e _ _ h3, fun z => ?_, fun n z => ?_, fun i z => ?_, h7⟩
      · rcases e.sN a z with q | q | ⟨i, q⟩
        · exact h4 q
        · rw [h2] at q; cases q
        · exact h6 i q
      · rcases e.rhoN n a z with q | q | ⟨i, q⟩
        · exact h5 n q
        · rw [h2] at q; cases q
        · exact h6 i q
      · rcases e.oN i a z with ⟨j, q⟩ | q
        · exact h6 j q
        · rw [h2] at q; cases q
section
variable {α β γ δ : Type} {K : PySem.W.Frag} {mg : Str → Option Value} {W : WX} {RelA : RelT α γ} {RelB : RelT β δ} {g g1 : G} {H H1 : Hp} {σ : L2.St}
theorem Pst.sh {r : Out α} {Q : γ → Hp → Prop} (sh : ∀ {g' H' t w}, RelA g1 H1 g' H' σ t w → RelA g H g' H' σ t w) (e : Ext g H g1 H1) (h : Pst K mg W RelA g H σ r Q) : Pst K mg W RelA g1 H1 σ r Q := by
  cases r with
  | ok t st' => exact fun g' w H' e' r' t' => h g' w H' (e.trans e') r' (sh t')
  | exc x st' => exact fun g' c d H' e' r' t' => h g' c d H' (e.trans e') r' t'
  | bad => exact h
/-- one behind the other; g H: the start of the whole, g1 H1: of this part -/
theorem Pst.bind {r : Out α} {k : α → M β} {Q : δ → Hp → Prop} {Q1 : γ → Hp → Prop} (e : Ext g H g1 H1) (h : Pst K mg W RelB g H σ (r.bind k) Q)
    (hq : ∀ g2 w H2 t st2, Ext g H g2 H2 → Ext g1 H1 g2 H2 → R K g2 st2 σ H2 → RelA g1 H1 g2 H2 σ t w → Pst K mg W RelB g H σ (k t st2) Q → Q1 w H2) : Pst K mg W RelA g1 H1 σ r Q1 := by
  cases r with
  | ok t st' => exact fun g' w H' e' r' t' => hq g' w H' t st' (e.trans e') e' r' t' h
  | exc x st' => exact fun g' c d H' e' r' t' => h g' c d H' (e.trans e') r' t'
  | bad => exact h
end
def sE (K : PySem.W.Frag) (mg : Str → Option Value) (W : WX) (m : M T) : TE := fun σ H Q => ∃ g st, R K g st σ H ∧ Pst K mg W (TR K) g H σ (m st) Q
theorem _root_.L2.PE.im {X : Cx} {e : Expr} {t t' : TE} (h : PE X e t) (hi : ∀ σ H Q, t' σ H Q → t σ H Q) : PE X e t' := ⟨fun pins s σ H Q I q => h.run pins s σ H Q I (hi _ _ _ q)⟩
theorem _root_.L2.PT.im {X : Cx} {e : Expr} {t t' : TT} (h : PT X e t) (hi : ∀ σ H Q, t' σ H Q → t σ H Q) : PT X e t' := ⟨fun pins s σ H Q I q => h.run pins s σ H Q I (hi _ _ _ q)⟩
theorem _root_.L2.PA.im {X : Cx} {e : List Expr} {t t' : TA} (h : PA X e t) (hi : ∀ σ H Q, t' σ H Q → t σ H Q) : PA X e t' := ⟨fun p pins s σ H Q I q => h.run p pins s σ H Q I (hi _ _ _ q)⟩
theorem _root_.L2.PS.im {X : Cx} {e : Stmt} {t t' : TS} (h : PS X e t) (hi : ∀ D σ H, t' D σ H → t D σ H) : PS X e t' := ⟨fun pins s σ H D I q => h.run pins s σ H D I (hi _ _ _ q)⟩
theorem _root_.L2.PSs.im {X : Cx} {e : List Stmt} {t t' : TS} (h : PSs X e t) (hi : ∀ D σ H, t' D σ H → t D σ H) : PSs X e t' := ⟨fun pins s σ H D I q => h.run pins s σ H D I (hi _ _ _ q)⟩
end Sm

namespace Sm
open PySem L2
/-! ### views -/
def deref (hp : List Ob) : Val → Val
  | .ref n => match hp[n]? with
    | some (.lst vs) => .lst vs
    | _ => .ref n
  | v => v
def view (t : T) (st : MS) : Option Val := match t with
  | .val v => some (deref st.hp v)
  | .own vs => some (.lst vs)
  | .loc i => match st.sl[i]? with
    | some (.val v) => some (deref st.hp v)
    | some (.own vs) => some (.lst vs)
    | _ => none
def Vw (K : PySem.W.Frag) (g : G) (H : Hp) (v : Val) (w : V) : Prop := match v with
  | .lst vs => ∃ a ws, w = .ref a ∧ H a = some (.lst ws) ∧ VRs K g H vs ws
  | v => VR K g H v w
section
variable {K : PySem.W.Frag} {mg : Str → Option Value} {g g0 g1 g2 : G} {H H0 H1 H2 : Hp} {st st1 st2 : MS} {σ : L2.St} {W : WX}
theorem Vw.of {v : Val} {w : V} (h : VR K g H v w) : Vw K g H v w := by
  cases v with
  | lst vs => unfold VR at h; obtain ⟨a, ws, h1, _, h2, h3⟩ := h; exact ⟨a, ws, h1, h2, h3⟩
  | _ => exact h
theorem Vw.deref (r : R K g st σ H) {v : Val} {w : V} (h : VR K g H v w) : Vw K g H (Sm.deref st.hp v) w := by
  cases v with
  | ref n =>
    have h0 := h
    unfold VR at h
    obtain ⟨a, h1, rfl⟩ := h
    cases q : st.hp[n]? with
    | none => simp only [Sm.deref, q]; exact h0
    | some o =>
      cases o with
      | lst vs =>
        obtain ⟨b, e, o⟩ := r.ob n _ q
        rw [h1] at e; cases e
        obtain ⟨ws, e1, e2⟩ := o
        simp only [Sm.deref, q]
        exact ⟨a, ws, rfl, e1, e2⟩
      | dic _ => simp only [Sm.deref, q]; exact h0
      | ins _ _ => simp only [Sm.deref, q]; exact h0
      | dk _ => simp only [Sm.deref, q]; exact h0
      | dn _ => simp only [Sm.deref, q]; exact h0
  | _ => exact Vw.of h
theorem view_ok (r : R K g st σ H) {t : T} {v : Val} {w : V} (h : TR K g0 H0 g H σ t w) (e : view t st = some v) : Vw K g H v w := by
  cases t with
  | val u => cases e; exact Vw.deref r h
  | own vs => cases e; obtain ⟨a, ws, h1, h2, h3, _⟩ := h; exact ⟨a, ws, h1, h2, h3⟩
  | loc i =>
    have h : σ[i]? = some (some w) := h
    simp only [view] at e
    cases q : st.sl[i]? with
    | none => rw [q] at e; cases e
    | some s =>
      rw [q] at e
      cases s with
      | no => cases e
      | val u =>
        cases e
        obtain ⟨w', h1, h2⟩ := r.vl i u q
        rw [h] at h1; cases h1
        exact Vw.deref r h2
      | own vs =>
        cases e
        obtain ⟨a, ws, h1, h2, h3, h4⟩ := r.ow i vs q
        rw [h] at h2; cases h2
        exact ⟨a, ws, rfl, h3, h4⟩
/-- a value made by an operation that changes nothing that stands -/
def RR (K : PySem.W.Frag) (g : G) (H H' : Hp) : T → V → Prop
  | .val v, w => VR K g H' v w
  | .own vs, w => ∃ a ws, w = .ref a ∧ H a = none ∧ H' a = some (.lst ws) ∧ VRs K g H' vs ws
  | .loc _, _ => False
theorem Wf.no_rho (w : Wf g H) {a : Addr} (h : H a = none) : ∀ n, g.rho n ≠ some a := fun n e => by
  have := w.rt n a e; rw [h] at this; exact this
theorem Wf.no_O (w : Wf g H) {a : Addr} (h : H a = none) : ∀ n, g.O n ≠ some a := fun n e => by
  have := w.ot n a e; rw [h] at this; exact this
theorem RR.tr (e : Ext g0 H0 g H) (w : Wf g H) (d : Add H H1) {t : T} {x : V} (h : RR K g H H1 t x) : TR K g0 H0 g H1 σ t x := by
  cases t with
  | val v => exact h
  | loc i => exact h.elim
  | own vs =>
    obtain ⟨a, ws, h1, h2, h3, h4⟩ := h
    exact ⟨a, ws, h1, h3, h4, fun z => w.sa a z h2, w.no_rho h2, w.no_O h2, .inl (e.nn a h2)⟩
/-- what an operation gives is the end -/
theorem Pst.done {Q : V → Hp → Prop} {t : T} (e : Ext g H g1 H1) (r : R K g1 st1 σ H1) (h : Pst K mg W (TR K) g H σ (.ok t st1) Q) :
    ∀ w H2, Add H1 H2 → RR K g1 H1 H2 t w → Q w H2 := fun w H2 d q => h g1 w H2 (e.trans d.ext) (r.add d) (RR.tr e r.wf d q)
def P1 (K : PySem.W.Frag) (rel : V → Hp → VK → Prop) (f : Val → Option T) : Prop := ∀ g H v w t (Q : VK), Wf g H → Vw K g H v w → f v = some t → (∀ w' H', Add H H' → RR K g H H' t w' → Q w' H') → rel w H Q
def P2 (K : PySem.W.Frag) (rel : R2) (f : Val → Val → Option T) : Prop := ∀ g H v1 v2 w1 w2 t (Q : VK), Wf g H → Vw K g H v1 w1 → Vw K g H v2 w2 → f v1 v2 = some t →
  (∀ w H', Add H H' → RR K g H H' t w → Q w H') → rel w1 w2 H Q
def outT (o : Option T) (st : MS) : Out T := match o with
  | some t => .ok t st
  | none => .bad
def vop1 (f : Val → Option T) (t1 : T) : M T := fun st => match view t1 st with
  | some v1 => outT (f v1) st
  | none => .bad
def vop2 (f : Val → Val → Option T) (t1 t2 : T) : M T := fun st => match view t1 st with
  | some v1 => match view t2 st with
    | some v2 => outT (f v1 v2) st
    | none => .bad
  | none => .bad
def mC (v : Val) : M T := fun st => .ok (.val v) st
def mV (i : Nat) : M T := fun st => match st.sl[i]? with
  | some (.val v) => .ok (.val v) st
  | some (.own _) => .ok (.loc i) st
  | _ => .bad
def mOp1 (f : Val → Option T) (ma : M T) : M T := fun st => (ma st).bind fun t1 => vop1 f t1
def mOp2 (f : Val → Val → Option T) (ma mb : M T) : M T := fun st => (ma st).bind fun t1 st1 => (mb st1).bind fun t2 => vop2 f t1 t2
theorem vop2_ok {rel : R2} {f : Val → Val → Option T} (hp : P2 K rel f) {t1 t2 : T} {w1 w2 : V} {Q : VK} (e : Ext g H g1 H1) (r : R K g1 st1 σ H1) {g9 : G} {H9 : Hp} (q1 : TR K g9 H9 g1 H1 σ t1 w1) (q2 : TR K g0 H0 g1 H1 σ t2 w2)
    (h : Pst K mg W (TR K) g H σ (vop2 f t1 t2 st1) Q) : rel w1 w2 H1 Q := by
  unfold vop2 at h
  split at h
  · rename_i v1 e1
    split at h
    · rename_i v2 e2
      unfold outT at h
      split at h
      · rename_i t et
        exact hp g1 H1 v1 v2 w1 w2 t Q r.wf (view_ok r q1 e1) (view_ok r q2 e2) et (h.done e r)
      · exact h.elim
    · exact h.elim
  · exact h.elim
theorem vop1_ok {rel : V → Hp → VK → Prop} {f : Val → Option T} (hp : P1 K rel f) {t1 : T} {w1 : V} {Q : VK} (e : Ext g H g1 H1) (r : R K g1 st1 σ H1) (q1 : TR K g0 H0 g1 H1 σ t1 w1)
    (h : Pst K mg W (TR K) g H σ (vop1 f t1 st1) Q) : rel w1 H1 Q := by
  unfold vop1 at h
  split at h
  · rename_i v1 e1
    unfold outT at h
    split at h
    · rename_i t et
      exact hp g1 H1 v1 w1 t Q r.wf (view_ok r q1 e1) et (h.done e r)
    · exact h.elim
  · exact h.elim
theorem tOp_ok {rel : R2} {f : Val → Val → Option T} (hp : P2 K rel f) {ma mb : M T} {Q : VK} (h : sE K mg W (mOp2 f ma mb) σ H Q) : tOp rel (sE K mg W ma) (sE K mg W mb) σ H Q := by
  obtain ⟨g, st, r, p⟩ := h
  refine ⟨g, st, r, Pst.bind Ext.refl p fun g2 w H2 t st2 e2 _ r2 q2 p2 => ⟨g2, st2, r2, Pst.bind e2 p2 fun g3 w3 H3 t3 st3 e3 e3' r3 q3 p3 => ?_⟩⟩
  exact vop2_ok hp e3 r3 (TR.rel.ext r2.wf e3' q2) q3 p3
theorem tUn_ok {rel : V → Hp → VK → Prop} {f : Val → Option T} (hp : P1 K rel f) {ma : M T} {Q : VK} (h : sE K mg W (mOp1 f ma) σ H Q) : tUn rel (sE K mg W ma) σ H Q := by
  obtain ⟨g, st, r, p⟩ := h
  exact ⟨g, st, r, Pst.bind Ext.refl p fun g2 w H2 t st2 e2 _ r2 q2 p2 => vop1_ok hp e2 r2 q2 p2⟩
end
/-! ### tests -/
abbrev RB : RelT Bool Bool := fun _ _ _ _ _ b c => c = b
def sT (K : PySem.W.Frag) (mg : Str → Option Value) (W : WX) (m : M Bool) : TT := fun σ H Q => ∃ g st, R K g st σ H ∧ Pst K mg W RB g H σ (m st) Q
def asB : Option Val → MS → Out Bool
  | some (.bl b), st => .ok b st
  | _, _ => .bad
def mTst (ma : M T) : M Bool := fun st => (ma st).bind fun t st1 => asB (view t st1) st1
def mAnd (ma mb : M Bool) : M Bool := fun st => (ma st).bind fun b st1 => if b = true then mb st1 else .ok false st1
def mOr (ma mb : M Bool) : M Bool := fun st => (ma st).bind fun b st1 => if b = true then .ok true st1 else mb st1
def mNot (ma : M Bool) : M Bool := fun st => (ma st).bind fun b st1 => .ok (!b) st1
def mIfE (mc : M Bool) (ma mb : M T) : M T := fun st => (mc st).bind fun b st1 => if b = true then ma st1 else mb st1
section
variable {X : Cx} {W : WX} {g g0 g1 g2 : G} {H H0 H1 H2 : Hp} {st st1 st2 : MS} {σ : L2.St} {a b c : Expr} {pos : Pos} {ma mb mc : M T}
abbrev SE (X : Cx) (W : WX) (e : Expr) (m : M T) : Prop := PE X e (sE X.K X.mg W m)
abbrev ST (X : Cx) (W : WX) (e : Expr) (m : M Bool) : Prop := PT X e (sT X.K X.mg W m)
theorem s_int {i j pos} : SE X W (.Constant (.int i) j pos) (mC (.int i)) := pe_int.im fun σ H Q ⟨g, st, r, p⟩ => p g _ H Ext.refl r (by show VR _ _ _ _ _; unfold VR; rfl)
theorem s_bl {i j pos} : SE X W (.Constant (.bool i) j pos) (mC (.bl i)) := pe_bl.im fun σ H Q ⟨g, st, r, p⟩ => p g _ H Ext.refl r (by show VR _ _ _ _ _; unfold VR; rfl)
theorem s_non {j pos} : SE X W (.Constant .none j pos) (mC .non) := pe_non.im fun σ H Q ⟨g, st, r, p⟩ => p g _ H Ext.refl r (by show VR _ _ _ _ _; unfold VR; rfl)
theorem s_str {i j pos} : SE X W (.Constant (.str i) j pos) (mC (.str i)) := pe_str.im fun σ H Q ⟨g, st, r, p⟩ => p g _ H Ext.refl r (by show VR _ _ _ _ _; unfold VR; rfl)
/-- a global constant -/
theorem s_glob {x : Str} {v : Val} {u : Value} {w : V} {pos : Pos} (hg : Gl X x) (hm : X.mg x = some u) (r : RelV w u) (hv : ∀ g H, VR X.K g H v w) (hd : (x == ("__debug__" : Str)) = false := by decide) : SE X W (.Name x pos) (mC v) :=
  (pe_glob hg hm r hd).im fun σ H Q ⟨g, st, r, p⟩ => p g _ H Ext.refl r (hv g H)
theorem s_v (i : Nat) {x : Str} {pos : Pos} (hN : X.N[i]? = some x := by rfl) (hv : Vis X.env.scope x := by first | exact Or.inl rfl | exact Or.inr (Or.inl rfl) | exact Or.inr (Or.inr rfl)) (hd : (x == ("__debug__" : Str)) = false := by decide)
    (hcd : (x == ("__classdict__" : Str)) = false := by decide) : SE X W (.Name x pos) (mV i) := (pv i hN hv hd hcd).im fun σ H Q ⟨g, st, r, p⟩ => by
  unfold mV at p
  cases q : st.sl[i]? with
  | none => rw [q] at p; exact p.elim
  | some s =>
    rw [q] at p
    cases s with
    | no => exact p.elim
    | val v =>
      obtain ⟨w, h1, h2⟩ := r.vl i v q
      exact ⟨w, h1, p g w H Ext.refl r h2⟩
    | own vs =>
      obtain ⟨a, ws, h1, h2, h3, h4⟩ := r.ow i vs q
      exact ⟨_, h2, p g _ H Ext.refl r h2⟩
theorem s_op {op : Operator} {rel : R2} {f : Val → Val → Option T} (ho : OpR X (binaryOp op) rel) (hp : P2 X.K rel f) (ha : SE X W a ma) (hb : SE X W b mb) : SE X W (.BinOp a op b pos) (mOp2 f ma mb) :=
  (pe_op ho ha hb).im fun σ H Q h => tOp_ok hp h
theorem s_un {op : UnaryOp} {rel : V → Hp → VK → Prop} {f : Val → Option T} (ho : UnR X (unaryOp op) rel) (hp : P1 X.K rel f) (ha : SE X W a ma) : SE X W (.UnaryOp op a pos) (mOp1 f ma) :=
  (pe_un ho ha).im fun σ H Q h => tUn_ok hp h
theorem s_ix {rel : R2} {f : Val → Val → Option T} (hr : IxR X rel) (hp : P2 X.K rel f) (ha : SE X W a ma) (hb : SE X W b mb) (hs : PlainIx b) : SE X W (.Subscript a b pos) (mOp2 f ma mb) :=
  (pe_ix hr ha hb hs).im fun σ H Q h => tOp_ok hp h
theorem s_cmp {op : CmpOp} {rel : R2} {f : Val → Val → Option T} (ho : OpR X (compareOp op) rel) (hp : P2 X.K rel f) (ha : SE X W a ma) (hb : SE X W b mb) (hm : behindInMarks op b = false) : SE X W (.Compare a [op] [b] pos) (mOp2 f ma mb) :=
  (pe_cmpR ho ha hb hm).im fun σ H Q h => tOp_ok hp h
/-- an expression as a test: True or False -/
theorem asB_ok {t : T} {w : V} {Q : Bool → Hp → Prop} (e : Ext g H g1 H1) (r : R X.K g1 st1 σ H1) (q1 : TR X.K g0 H0 g1 H1 σ t w) (h : Pst X.K X.mg W RB g H σ (asB (view t st1) st1) Q) : ∃ k, w = .bl k ∧ Q k H1 := by
  unfold asB at h
  split at h
  · rename_i st1' k ev
    have := view_ok r q1 ev
    unfold Vw VR at this
    exact ⟨_, this, h g1 _ H1 e r rfl⟩
  · exact h.elim
theorem t_val (ha : SE X W a ma) (he : ∀ whole, isTrue a X.env whole = (do let v ← whole; standAt a.pos; holding [v] (truthy v)) := by intro _; rfl) : ST X W a (mTst ma) :=
  (pt_val ha he).im fun σ H Q ⟨g, st, r, p⟩ => ⟨g, st, r, Pst.bind Ext.refl p fun g2 w H2 t st2 e2 _ r2 q2 p2 => asB_ok e2 r2 q2 p2⟩
theorem t_cmp {op : CmpOp} {rel : R2} {f : Val → Val → Option T} (ho : OpR X (compareOp op) rel) (hp : P2 X.K rel f) (ha : SE X W a ma) (hb : SE X W b mb) (hm : behindInMarks op b = false) : ST X W (.Compare a [op] [b] pos) (mTst (mOp2 f ma mb)) :=
  (pt_cmpR ho ha hb hm).im fun σ H Q ⟨g, st, r, p⟩ => by
    have p : Pst X.K X.mg W RB g H σ ((mOp2 f ma mb st).bind fun t st1 => asB (view t st1) st1) Q := p
    have h : sE X.K X.mg W (mOp2 f ma mb) σ H (fun w H2 => ∃ k, w = .bl k ∧ Q k H2) := ⟨g, st, r, Pst.bind Ext.refl p fun g2 w H2 t st2 e2 _ r2 q2 p2 => asB_ok e2 r2 q2 p2⟩
    exact tOp_ok hp h
def mChain (f f' : Val → Val → Option T) (ma mb mc : M T) : M T := fun st => (ma st).bind fun t1 st1 => (mb st1).bind fun t2 st2 => (vop2 f t1 t2 st2).bind fun t st3 => (asB (view t st3) st3).bind fun k st4 =>
  if k = true then (mc st4).bind fun t3 => vop2 f' t2 t3 else .ok (.val (.bl false)) st4
theorem chain_ok {rel rel' : R2} {f f' : Val → Val → Option T} (hp : P2 X.K rel f) (hp' : P2 X.K rel' f') {Q : VK} (h : sE X.K X.mg W (mChain f f' ma mb mc) σ H Q) :
    tChain rel rel' (sE X.K X.mg W ma) (sE X.K X.mg W mb) (sE X.K X.mg W mc) σ H Q := by
  obtain ⟨g, st, r, p⟩ := h
  refine ⟨g, st, r, Pst.bind Ext.refl p fun g2 w H2 t st2 e2 _ r2 q2 p2 => ⟨g2, st2, r2, Pst.bind e2 p2 fun g3 w3 H3 t3 st3 e3 e3' r3 q3 p3 => ?_⟩⟩
  have q2' := TR.rel.ext r2.wf e3' q2
  refine vop2_ok hp Ext.refl r3 q2' q3 (Pst.bind e3 p3 fun g4 w4 H4 t4 st4 e4 e4' r4 q4 p4 => ?_)
  unfold asB at p4
  split at p4
  · rename_i st1' k ev
    have := view_ok r4 q4 ev
    unfold Vw VR at this
    subst this
    refine ⟨k, rfl, ?_⟩
    cases k with
    | false => exact iteF (p4 g4 _ H4 e4 r4 (by show VR _ _ _ _ _; unfold VR; rfl))
    | true => exact iteT ⟨g4, _, r4, Pst.bind (RelA := TR X.K) e4 p4 fun g5 w5 H5 t5 st5 e5 e5' r5 q5 p5 => vop2_ok hp' e5 r5 (TR.rel.ext r4.wf e5' (TR.rel.ext r3.wf e4' q3)) q5 p5⟩
  · exact p4.elim
theorem s_chain {op op' : CmpOp} {rel rel' : R2} {f f' : Val → Val → Option T} (ho : OpR X (compareOp op) rel) (ho' : OpR X (compareOp op') rel') (hp : P2 X.K rel f) (hp' : P2 X.K rel' f') (ha : SE X W a ma) (hb : SE X W b mb) (hc : SE X W c mc)
    (hm : lastMarks [op, op'] [b, c] = false := by with_unfolding_all rfl) : SE X W (.Compare a [op, op'] [b, c] pos) (mChain f f' ma mb mc) := (pe_chain ho ho' ha hb hc hm).im fun σ H Q h => chain_ok hp hp' h
theorem t_chain {op op' : CmpOp} {rel rel' : R2} {f f' : Val → Val → Option T} (ho : OpR X (compareOp op) rel) (ho' : OpR X (compareOp op') rel') (hp : P2 X.K rel f) (hp' : P2 X.K rel' f') (ha : SE X W a ma) (hb : SE X W b mb) (hc : SE X W c mc)
    (hm : lastMarks [op, op'] [b, c] = false := by with_unfolding_all rfl) : ST X W (.Compare a [op, op'] [b, c] pos) (mTst (mChain f f' ma mb mc)) := (pt_chain ho ho' ha hb hc hm).im fun σ H Q ⟨g, st, r, p⟩ => by
  have p : Pst X.K X.mg W RB g H σ ((mChain f f' ma mb mc st).bind fun t st1 => asB (view t st1) st1) Q := p
  have h : sE X.K X.mg W (mChain f f' ma mb mc) σ H (fun w H2 => ∃ k, w = .bl k ∧ Q k H2) := ⟨g, st, r, Pst.bind Ext.refl p fun g2 w H2 t st2 e2 _ r2 q2 p2 => asB_ok e2 r2 q2 p2⟩
  exact chain_ok hp hp' h
/-! and, or, not, if-else -/
abbrev SW (X : Cx) (W : WX) (e : Expr) (m : M Bool) : Prop := PW X e (sT X.K X.mg W m)
variable {na nb : M Bool} {rest : List Expr}
theorem _root_.L2.PW.im {e : Expr} {t t' : TT} (h : PW X e t) (hi : ∀ σ H Q, t' σ H Q → t σ H Q) : PW X e t' := ⟨fun wh pins s σ H Q I q => h.run wh pins s σ H Q I (hi _ _ _ q)⟩
theorem w_and1 (ha : ST X W a na) : SW X W (.BoolOp .And [a] pos) na := pw_and1 ha
theorem w_or1 (ha : ST X W a na) : SW X W (.BoolOp .Or [a] pos) na := pw_or1 ha
theorem w_and (ha : ST X W a na) (hb : SW X W (.BoolOp .And (b :: rest) pos) nb) : SW X W (.BoolOp .And (a :: b :: rest) pos) (mAnd na nb) := (pw_and ha hb).im fun σ H Q ⟨g, st, r, p⟩ =>
  ⟨g, st, r, Pst.bind Ext.refl p fun g2 w H2 t st2 e2 _ r2 q2 p2 => by
    have q2 : w = t := q2
    subst q2
    cases w with
    | true => exact iteT ⟨g2, st2, r2, Pst.sh (g := g) (H := H) (RelA := RB) (fun q => q) e2 p2⟩
    | false => exact iteF (p2 g2 _ H2 e2 r2 rfl)⟩
theorem w_or (ha : ST X W a na) (hb : SW X W (.BoolOp .Or (b :: rest) pos) nb) : SW X W (.BoolOp .Or (a :: b :: rest) pos) (mOr na nb) := (pw_or ha hb).im fun σ H Q ⟨g, st, r, p⟩ =>
  ⟨g, st, r, Pst.bind Ext.refl p fun g2 w H2 t st2 e2 _ r2 q2 p2 => by
    have q2 : w = t := q2
    subst q2
    cases w with
    | false => exact iteF ⟨g2, st2, r2, Pst.sh (g := g) (H := H) (RelA := RB) (fun q => q) e2 p2⟩
    | true => exact iteT (p2 g2 _ H2 e2 r2 rfl)⟩
theorem t_w (ha : SW X W a na) : ST X W a na := ha.pt
theorem t_not (ha : ST X W a na) : ST X W (.UnaryOp .Not a pos) (mNot na) := (pt_not ha).im fun σ H Q ⟨g, st, r, p⟩ =>
  ⟨g, st, r, Pst.bind (RelA := RB) Ext.refl p fun g2 w H2 t st2 e2 _ r2 q2 p2 => by
    have q2 : w = t := q2
    subst q2
    exact p2 g2 _ H2 e2 r2 rfl⟩
theorem s_if (hc : ST X W c na) (ha : SE X W a ma) (hb : SE X W b mb) : SE X W (.IfExp c a b pos) (mIfE na ma mb) := (pe_ifExp hc ha hb).im fun σ H Q ⟨g, st, r, p⟩ =>
  ⟨g, st, r, Pst.bind (RelA := RB) Ext.refl p fun g2 w H2 t st2 e2 _ r2 q2 p2 => by
    have q2 : w = t := q2
    subst q2
    cases w with
    | true => exact iteT ⟨g2, st2, r2, Pst.sh (g := g) (H := H) (TR.rel.sh e2) e2 p2⟩
    | false => exact iteF ⟨g2, st2, r2, Pst.sh (g := g) (H := H) (TR.rel.sh e2) e2 p2⟩⟩
/-- a and b, a or b as values of tests -/
def mBool (m : M Bool) : M T := fun st => (m st).bind fun b st1 => .ok (.val (.bl b)) st1
end
/-! ### arguments -/
def TRs (K : PySem.W.Frag) : RelT (List T) (List V) := fun g0 H0 g H σ ts ws => Paired (TR K g0 H0 g H σ) ts ws
theorem TRs.rel {K : PySem.W.Frag} : RelOk (TRs K) where
  sh := fun e h => prd_map (fun _ _ q => TR.rel.sh e q) h
  ext := fun wf e h => prd_map (fun _ _ q => TR.rel.ext wf e q) h
def sA (K : PySem.W.Frag) (mg : Str → Option Value) (W : WX) (m : M (List T)) : TA := fun σ H Q => ∃ g st, R K g st σ H ∧ Pst K mg W (TRs K) g H σ (m st) Q
def mA0 : M (List T) := fun st => .ok [] st
def mA1 (m : M T) (ms : M (List T)) : M (List T) := fun st => (m st).bind fun t st1 => (ms st1).bind fun ts st2 => .ok (t :: ts) st2
abbrev SA (X : Cx) (W : WX) (es : List Expr) (m : M (List T)) : Prop := PA X es (sA X.K X.mg W m)
section
variable {X : Cx} {W : WX} {e : Expr} {es : List Expr} {m : M T} {ms : M (List T)} {pos : Pos}
theorem a_0 : SA X W [] mA0 := pa_nil.im fun σ H Q ⟨g, st, r, p⟩ => p g _ H Ext.refl r .nil
theorem a_1 (ha : SE X W e m) (hr : SA X W es ms) (hs : starEach (e :: es) X.env = (false, eval e X.env) :: starEach es X.env := by rfl) : SA X W (e :: es) (mA1 m ms) := (pa_cons ha hr hs).im fun σ H Q ⟨g, st, r, p⟩ =>
  ⟨g, st, r, Pst.bind Ext.refl p fun g2 w H2 t st2 e2 _ r2 q2 p2 => ⟨g2, st2, r2, Pst.bind e2 p2 fun g3 ws H3 ts st3 e3 e3' r3 q3 p3 =>
    p3 g3 _ H3 e3 r3 (.cons (TR.rel.ext r2.wf e3' q2) (TRs.rel.sh e2 q3))⟩⟩
end
/-! ### built-ins upon views -/
def views : List T → MS → Option (List Val)
  | [], _ => some []
  | t :: ts, st => match view t st with
    | some v => match views ts st with
      | some vs => some (v :: vs)
      | none => none
    | none => none
section
variable {K : PySem.W.Frag} {mg : Str → Option Value} {g g0 g1 g2 : G} {H H0 H1 H2 : Hp} {st st1 st2 : MS} {σ : L2.St} {W : WX}
theorem views_ok (r : R K g st σ H) : ∀ {ts : List T} {vs : List Val} {ws : List V}, TRs K g0 H0 g H σ ts ws → views ts st = some vs → Paired (Vw K g H) vs ws
  | [], vs, ws, h, e => by cases h; cases e; exact .nil
  | t :: ts, vs, ws, h, e => by
    cases h with
    | cons h1 h2 =>
      simp only [views] at e
      split at e
      · rename_i v ev
        split at e
        · rename_i us eu
          cases e
          exact .cons (view_ok r h1 ev) (views_ok r h2 eu)
        · cases e
      · cases e
def PC (K : PySem.W.Frag) (rel : List V → Hp → VK → Prop) (f : List Val → Option T) : Prop := ∀ g H vs ws t (Q : VK), Wf g H → Paired (Vw K g H) vs ws → f vs = some t → (∀ w' H', Add H H' → RR K g H H' t w' → Q w' H') → rel ws H Q
def vopN (f : List Val → Option T) (ts : List T) : M T := fun st => match views ts st with
  | some vs => outT (f vs) st
  | none => .bad
def mCB (f : List Val → Option T) (ms : M (List T)) : M T := fun st => (ms st).bind fun ts => vopN f ts
theorem vopN_ok {rel : List V → Hp → VK → Prop} {f : List Val → Option T} (hp : PC K rel f) {ts : List T} {ws : List V} {Q : VK} (e : Ext g H g1 H1) (r : R K g1 st1 σ H1) (q1 : TRs K g0 H0 g1 H1 σ ts ws)
    (h : Pst K mg W (TR K) g H σ (vopN f ts st1) Q) : rel ws H1 Q := by
  unfold vopN at h
  split at h
  · rename_i vs ev
    unfold outT at h
    split at h
    · rename_i t et
      exact hp g1 H1 vs ws t Q r.wf (views_ok r q1 ev) et (h.done e r)
    · exact h.elim
  · exact h.elim
theorem tCB_ok {rel : List V → Hp → VK → Prop} {f : List Val → Option T} (hp : PC K rel f) {ms : M (List T)} {Q : VK} (h : sE K mg W (mCB f ms) σ H Q) : tCB rel (sA K mg W ms) σ H Q := by
  obtain ⟨g, st, r, p⟩ := h
  exact ⟨g, st, r, Pst.bind Ext.refl p fun g2 w H2 t st2 e2 _ r2 q2 p2 => vopN_ok hp e2 r2 q2 p2⟩
end
section
variable {X : Cx} {W : WX} {x : Str} {p pos : Pos} {e : Expr} {es : List Expr} {ms : M (List T)} {id Tn : String} {rel : List V → Hp → VK → Prop} {f : List Val → Option T}
theorem s_callB (hc : CallR X (.builtin id) rel) (hp : PC X.K rel f) (hg : Gl X x) (hm : X.mg x = none) (hv : bootBuiltins x = some (.builtin id)) (ha : SA X W (e :: es) ms) (hn : x ≠ "__name__" := by decide) (hdb : (x == ("__debug__" : Str)) = false := by decide)
    (he : starEach (e :: es) X.env = (false, eval e X.env) :: starEach es X.env := by rfl) (hpl : (backTo pos (starEach es X.env)).any (·.1) = false := by rfl) : SE X W (.Call (.Name x p) (e :: es) [] pos) (mCB f ms) :=
  (pe_callB hc hg hm hv ha hn hdb he hpl).im fun σ H Q h => tCB_ok hp h
theorem s_callTy (hc : CallR X (.type Tn) rel) (hp : PC X.K rel f) (hg : Gl X x) (hm : X.mg x = none) (hv : bootBuiltins x = some (.type Tn)) (ha : SA X W (e :: es) ms) (hn : x ≠ "__name__" := by decide) (hdb : (x == ("__debug__" : Str)) = false := by decide)
    (he : starEach (e :: es) X.env = (false, eval e X.env) :: starEach es X.env := by rfl) (hpl : (backTo pos (starEach es X.env)).any (·.1) = false := by rfl) : SE X W (.Call (.Name x p) (e :: es) [] pos) (mCB f ms) :=
  (pe_callTy hc hg hm hv ha hn hdb he hpl).im fun σ H Q h => tCB_ok hp h
end
/-! ### methods that only read -/
/-- the receiver is of the type -/
def tyS (Tn : String) (v : Val) : Bool := match v with
  | .lst _ => Tn == "list"
  | .str _ => Tn == "str"
  | _ => false
def mMt (Tn : String) (f : Val → List Val → Option T) (mo : M T) (ms : M (List T)) : M T := fun st => (mo st).bind fun t st1 => match view t st1 with
  | some u => if tyS Tn u = true then (ms st1).bind fun ts st2 => match view t st2 with
    | some v => vopN (f v) ts st2
    | none => .bad
    else .bad
  | none => .bad
def PM (K : PySem.W.Frag) (rel : V → List V → Hp → VK → Prop) (f : Val → List Val → Option T) : Prop := ∀ g H v w vs ws t (Q : VK), Wf g H → Vw K g H v w → Paired (Vw K g H) vs ws → f v vs = some t → (∀ w' H', Add H H' → RR K g H H' t w' → Q w' H') → rel w ws H Q
theorem tyS_ok {K : PySem.W.Frag} {g : G} {H : Hp} {Tn : String} {v : Val} {w : V} (h : Vw K g H v w) (e : tyS Tn v = true) : tyV K Tn w H := by
  cases v with
  | lst vs =>
    obtain ⟨a, ws, rfl, h2, _⟩ := h
    have e : (Tn == "list") = true := e
    exact .inl ⟨by simpa using e, ws, SqL.of h2⟩
  | str s =>
    have h : VR K g H (.str s) w := h
    unfold VR at h
    subst h
    have e : (Tn == "str") = true := e
    show Tn = "str"
    simpa using e
  | _ => cases e
section
variable {X : Cx} {W : WX} {p pos apos cpos : Pos} {e o : Expr} {es : List Expr} {mo : M T} {ms : M (List T)} {id Tn : String} {name : Str} {rel : V → List V → Hp → VK → Prop} {f : Val → List Val → Option T}
theorem vM_ok (hp : PM X.K rel f) {g0 g g1 : G} {H0 H H1 : Hp} {g9 : G} {H9 : Hp} {st1 : MS} {σ : L2.St} {t : T} {w : V} {ts : List T} {ws : List V} {Q : VK} (e : Ext g H g1 H1) (r : R X.K g1 st1 σ H1) (q0 : TR X.K g9 H9 g1 H1 σ t w) (q1 : TRs X.K g0 H0 g1 H1 σ ts ws)
    (h : Pst X.K X.mg W (TR X.K) g H σ (match view t st1 with
      | some v => vopN (f v) ts st1
      | none => .bad) Q) : rel w ws H1 Q := by
  split at h
  · rename_i v ev
    unfold vopN at h
    split at h
    · rename_i vs evs
      unfold outT at h
      split at h
      · rename_i u et
        exact hp g1 H1 v w vs ws u Q r.wf (view_ok r q0 ev) (views_ok r q1 evs) et (h.done e r)
      · exact h.elim
    · exact h.elim
  · exact h.elim
theorem s_bm0 (pa : PlainAttrs Tn) (slot : Slot Tn name id) (hty : typeOf (.builtin id) = pure (.type "method_descriptor")) (hm : MtR X id rel) (hp : PM X.K rel f) (ho : SE X W o mo)
    (hbase : attributeBase o name X.env (eval o X.env) = eval o X.env := by rfl) (hline : (apos.endLine == cpos.line) = true := by rfl) : SE X W (.Call (.Attribute o name apos) [] [] cpos) (mMt Tn f mo mA0) :=
  (pe_bm0 pa slot hty hm ho hbase hline).im fun σ H Q ⟨g, st, r, p⟩ => ⟨g, st, r, Pst.bind Ext.refl p fun g2 w H2 t st2 e2 _ r2 q2 p2 => by
    split at p2
    · rename_i u eu
      split at p2
      · rename_i ht
        exact ⟨tyS_ok (view_ok r2 q2 eu) ht, vM_ok hp e2 r2 q2 (show TRs X.K g H g2 H2 σ [] [] from .nil) p2⟩
      · exact p2.elim
    · exact p2.elim⟩
/-- o.name(e, ..): what its text does -/
def BmTx (X : Cx) (o : Expr) (name : Str) (e : Expr) (es : List Expr) (apos cpos : Pos) : Prop :=
  (attributeBase o name X.env (eval o X.env) = eval o X.env ∧ (apos.endLine == cpos.line) = true) ∧ (starEach (e :: es) X.env = (false, eval e X.env) :: starEach es X.env ∧ (backTo cpos (starEach es X.env)).any (·.1) = false) ∧
    ((backTo cpos (starEach (e :: es) X.env)).all (fun x => !x.1) && (backToKw cpos (keywordEach [] X.env)).all (fun x => x.1.isSome) && decide ((e :: es).length + ([] : List Keyword).length + (if ([] : List Keyword).isEmpty then 0 else 1) < 30)) = true
theorem s_bm (pa : PlainAttrs Tn) (slot : Slot Tn name id) (hty : typeOf (.builtin id) = pure (.type "method_descriptor")) (hm : MtR X id rel) (hp : PM X.K rel f) (ho : SE X W o mo) (ha : SA X W (e :: es) ms)
    (tx : BmTx X o name e es apos cpos := by exact ⟨⟨rfl, rfl⟩, ⟨rfl, rfl⟩, rfl⟩) :
    SE X W (.Call (.Attribute o name apos) (e :: es) [] cpos) (mMt Tn f mo ms) :=
  (pe_bm pa slot hty hm ho ha tx.1.1 tx.2.2 tx.1.2 tx.2.1.1 tx.2.1.2).im fun σ H Q ⟨g, st, r, p⟩ => ⟨g, st, r, Pst.bind Ext.refl p fun g2 w H2 t st2 e2 _ r2 q2 p2 => by
    split at p2
    · rename_i u eu
      split at p2
      · rename_i ht
        exact ⟨tyS_ok (view_ok r2 q2 eu) ht, g2, st2, r2, Pst.bind e2 p2 fun g3 ws H3 ts st3 e3 e3' r3 q3 p3 => vM_ok hp e3 r3 (TR.rel.ext r2.wf e3' q2) q3 p3⟩
      · exact p2.elim
    · exact p2.elim⟩
end
/-! ### slices -/
inductive OI where
  | no | some (i : Int)
def sO (K : PySem.W.Frag) (mg : Str → Option Value) (W : WX) (m : M (Option Int)) : TO := fun σ H Q => ∃ g st, R K g st σ H ∧ Pst K mg W (fun _ _ _ _ _ (i j : Option Int) => j = i) g H σ (m st) Q
def mO0 : M (Option Int) := fun st => .ok none st
def asI : Option Val → MS → Out Int
  | some (.int i), st => .ok i st
  | _, _ => .bad
def mO1 (m : M T) : M (Option Int) := fun st => (m st).bind fun t st1 => (asI (view t st1) st1).bind fun i st2 => .ok (some i) st2
def mSl (f : Val → Option Int → Option Int → Option T) (m : M T) (ml mu : M (Option Int)) : M T := fun st => (m st).bind fun t st1 => (ml st1).bind fun l st2 => (mu st2).bind fun u st3 => match view t st3 with
  | some v => outT (f v l u) st3
  | none => .bad
def PSl (K : PySem.W.Frag) (rel : V → Option Int → Option Int → Hp → VK → Prop) (f : Val → Option Int → Option Int → Option T) : Prop := ∀ g H v w l u t (Q : VK), Wf g H → Vw K g H v w → f v l u = some t →
  (∀ w' H', Add H H' → RR K g H H' t w' → Q w' H') → rel w l u H Q
section
variable {X : Cx} {W : WX} {e : Expr} {lo hi : Option Expr} {m : M T} {ml mu : M (Option Int)} {pos p2 : Pos} {rel : V → Option Int → Option Int → Hp → VK → Prop} {f : Val → Option Int → Option Int → Option T}
abbrev SO (X : Cx) (W : WX) (e : Option Expr) (m : M (Option Int)) : Prop := PO X e (sO X.K X.mg W m)
theorem _root_.L2.PO.im {e : Option Expr} {t t' : TO} (h : PO X e t) (hi : ∀ σ H Q, t' σ H Q → t σ H Q) : PO X e t' := ⟨fun pins s σ H Q I q => h.run pins s σ H Q I (hi _ _ _ q)⟩
theorem o_no : SO X W none mO0 := po_none.im fun σ H Q ⟨g, st, r, p⟩ => p g _ H Ext.refl r rfl
theorem o_some (h : SE X W e m) : SO X W (some e) (mO1 m) := (po_some h).im fun σ H Q ⟨g, st, r, p⟩ => ⟨g, st, r, Pst.bind Ext.refl p fun g2 w H2 t st2 e2 _ r2 q2 p2 => by
  unfold asI at p2
  split at p2
  · rename_i st1' i ev
    have := view_ok r2 q2 ev
    unfold Vw VR at this
    exact ⟨i, this, p2 g2 _ H2 e2 r2 rfl⟩
  · exact p2.elim⟩
theorem s_sl (hr : SlR X rel) (hp : PSl X.K rel f) (he : SE X W e m) (hl : SO X W lo ml) (hu : SO X W hi mu) : SE X W (.Subscript e (.Slice lo hi none p2) pos) (mSl f m ml mu) :=
  (pe_slice hr he hl hu).im fun σ H Q ⟨g, st, r, p⟩ => ⟨g, st, r, Pst.bind Ext.refl p fun g2 w H2 t st2 e2 _ r2 q2 p2 => ⟨g2, st2, r2, Pst.bind e2 p2 fun g3 l H3 l' st3 e3 e3' r3 q3 p3 =>
    ⟨g3, st3, r3, Pst.bind e3 p3 fun g4 u H4 u' st4 e4 e4' r4 q4 p4 => by
      cases q3
      cases q4
      split at p4
      · rename_i v ev
        unfold outT at p4
        split at p4
        · rename_i t' et
          exact hp g4 H4 v w _ _ t' Q r4.wf (view_ok r4 (TR.rel.ext r3.wf e4' (TR.rel.ext r2.wf e3' q2)) ev) et (p4.done e4 r4)
        · exact p4.elim
      · exact p4.elim⟩⟩⟩
end
end Sm

namespace Sm
open PySem L2
/-! ### taking: an own list becomes one that nobody changes -/
def mTake (t : T) : M Val := fun st => match t with
  | .val v => .ok v st
  | .own vs => .ok (.lst vs) st
  | .loc i => match st.sl[i]? with
    | some (.val v) => .ok v st
    | some (.own vs) => .ok (.lst vs) { st with sl := st.sl.set i (.val (.lst vs)) }
    | _ => .bad
def mTakes : List T → M (List Val)
  | [] => fun st => .ok [] st
  | t :: ts => fun st => (mTake t st).bind fun v st1 => (mTakes ts st1).bind fun vs st2 => .ok (v :: vs) st2
def TW (K : PySem.W.Frag) (g0 : G) (H0 : Hp) (g : G) (H : Hp) (σ : L2.St) : T → V → Prop
  | .val v, w => VR K g H v w
  | .own vs, w => ∃ a ws, w = .ref a ∧ H a = some (.lst ws) ∧ VRs K g H vs ws ∧ (∀ n, g.rho n ≠ some a) ∧ (∀ i, g.O i ≠ some a) ∧ (H0 a = none ∨ ∃ i, g0.O i = some a)
  | .loc i, w => σ[i]? = some (some w)
structure Le (g1 g2 : G) : Prop where
  rho : g2.rho = g1.rho
  s : ∀ a, g1.S a → g2.S a
  o : ∀ i a, g2.O i = some a → g1.O i = some a
theorem Le.refl {g : G} : Le g g := ⟨rfl, fun _ h => h, fun _ _ h => h⟩
theorem Le.trans {g1 g2 g3 : G} (a : Le g1 g2) (b : Le g2 g3) : Le g1 g3 := ⟨b.rho.trans a.rho, fun x h => b.s x (a.s x h), fun i x h => a.o i x (b.o i x h)⟩
section
variable {K : PySem.W.Frag} {mg : Str → Option Value} {g g0 g1 g2 : G} {H H0 H1 H2 : Hp} {st st1 st2 : MS} {σ : L2.St} {W : WX}
mutual
theorem VR.le (l : Le g1 g2) : ∀ (v : Val) (w : V), VR K g1 H v w → VR K g2 H v w
  | .non, x, h => by unfold VR at h ⊢; exact h
  | .bl b, x, h => by unfold VR at h ⊢; exact h
  | .int i, x, h => by unfold VR at h ⊢; exact h
  | .str s, x, h => by unfold VR at h ⊢; exact h
  | .ty s, x, h => by unfold VR at h ⊢; exact h
  | .adr s d ns vs, x, h => by
    unfold VR at h ⊢
    obtain ⟨h1, h2 | ⟨p, ws, h2, h3, h4, h5⟩⟩ := h
    · exact ⟨h1, .inl h2⟩
    · exact ⟨h1, .inr ⟨p, ws, h2, h3, h4, VRs.le l vs _ h5⟩⟩
  | .lam s, x, h => by unfold VR at h ⊢; exact h
  | .tup vs, x, h => by
    unfold VR at h ⊢
    obtain ⟨a, ws, h1, h2, h3⟩ := h
    exact ⟨a, ws, h1, h2, VRs.le l vs ws h3⟩
  | .ktup vs, x, h => by
    unfold VR at h ⊢
    obtain ⟨a, ws, h1, h2, h3⟩ := h
    exact ⟨a, ws, h1, h2, VRs.le l vs ws h3⟩
  | .lst vs, x, h => by
    unfold VR at h ⊢
    obtain ⟨a, ws, h1, hs, h2, h3⟩ := h
    exact ⟨a, ws, h1, l.s a hs, h2, VRs.le l vs ws h3⟩
  | .scr vs, x, h => by
    unfold VR at h ⊢
    obtain ⟨a, ws, h1, h2, h3⟩ := h
    exact ⟨a, ws, h1, h2.imp (fun z => ⟨l.s a z.1, z.2⟩) (fun z => z), VRs.le l vs ws h3⟩
  | .ref n, x, h => by
    unfold VR at h ⊢
    obtain ⟨a, h1, h2⟩ := h
    exact ⟨a, by rw [l.rho]; exact h1, h2⟩
theorem VRs.le (l : Le g1 g2) : ∀ (vs : List Val) (ws : List V), VRs K g1 H vs ws → VRs K g2 H vs ws
  | [], x, h => by unfold VRs at h ⊢; exact h
  | v :: vs, x, h => by
    unfold VRs at h ⊢
    obtain ⟨a, r, h1, h2, h3⟩ := h
    exact ⟨a, r, h1, VR.le l v a h2, VRs.le l vs r h3⟩
end
theorem OR.le (l : Le g1 g2) {o : Ob} {a : Addr} (h : OR K g1 H o a) : OR K g2 H o a := h.imp (VR.le l) rfl
theorem RH.le {hp : List Ob} (r : RH K g1 hp H) (l : Le g1 g2) (hs : ∀ a, g2.S a → ¬ g1.S a → (¬ H a = none) ∧ ∀ n, g1.rho n ≠ some a) : RH K g2 hp H where
  dom := fun n a h => r.dom n a (by rw [← l.rho]; exact h)
  ob := fun n o h => let ⟨a, h1, h2⟩ := r.ob n o h; ⟨a, by rw [l.rho]; exact h1, h2.le l⟩
  inj := fun n m a h1 h2 => r.inj n m a (by rw [← l.rho]; exact h1) (by rw [← l.rho]; exact h2)
  sr := fun n a h z => by
    rw [l.rho] at h
    by_cases q : g1.S a
    · exact r.sr n a h q
    · exact (hs a z q).2 n h
  sa := fun a z => by
    by_cases q : g1.S a
    · exact r.sa a q
    · exact (hs a z q).1
  tb := r.tb
theorem TR.tw {t : T} {w : V} (h : TR K g0 H0 g H σ t w) : TW K g0 H0 g H σ t w := by
  cases t with
  | val v => exact h
  | loc i => exact h
  | own vs => obtain ⟨a, ws, h1, h2, h3, h4, h5, h6, h7⟩ := h; exact ⟨a, ws, h1, h2, h3, h5, h6, h7⟩
theorem TW.le (l : Le g1 g2) {t : T} {w : V} (h : TW K g0 H0 g1 H σ t w) : TW K g0 H0 g2 H σ t w := by
  cases t with
  | val v => exact VR.le l _ _ h
  | loc i => exact h
  | own vs => obtain ⟨a, ws, h1, h2, h3, h5, h6, h7⟩ := h; exact ⟨a, ws, h1, h2, VRs.le l _ _ h3, fun n z => h5 n (by rw [← l.rho]; exact z), fun i z => h6 i (l.o i a z), h7⟩
/-- one more list that nobody changes: a temporary one -/
theorem R.freeze {a : Addr} (r : R K g1 st1 σ H1) (ha : ¬ H1 a = none) (hr : ∀ n, g1.rho n ≠ some a) (ho : ∀ i, g1.O i ≠ some a) : Le g1 { g1 with S := fun b => g1.S b ∨ b = a } ∧ R K { g1 with S := fun b => g1.S b ∨ b = a } st1 σ H1 := by
  have l : Le g1 { g1 with S := fun b => g1.S b ∨ b = a } := ⟨rfl, fun _ h => .inl h, fun _ _ h => h⟩
  refine ⟨l, { toRH := r.toRH.le l fun b z q => ?_, len := r.len, vl := fun i v h => ?_, ow := fun i vs h => ?_, oi := fun i b h => ?_, oinj := r.oinj }⟩
  · rcases z with z | rfl
    · exact absurd z q
    · exact ⟨ha, hr⟩
  · obtain ⟨w, h1, h2⟩ := r.vl i v h
    exact ⟨w, h1, VR.le l _ _ h2⟩
  · obtain ⟨b, ws, h1, h2, h3, h4⟩ := r.ow i vs h
    exact ⟨b, ws, h1, h2, h3, VRs.le l _ _ h4⟩
  · obtain ⟨h1, h2, h3⟩ := r.oi i b h
    refine ⟨h1, fun z => ?_, h3⟩
    rcases z with z | rfl
    · exact h2 z
    · exact ho i h
theorem Ext.grow (e : Ext g H g1 H1) (l : Le g1 g2) (hs : ∀ b, g2.S b → g1.S b ∨ (H b = none ∨ ∃ i, g.O i = some b)) : Ext g H g2 H1 where
  rho := fun n a h => by rw [l.rho]; exact e.rho n a h
  s := fun a h => l.s a (e.s a h)
  fr := e.fr
  nn := e.nn
  rhoN := fun n a h => e.rhoN n a (by rw [← l.rho]; exact h)
  sN := fun b z => (hs b z).elim (e.sN b) .inr
  oN := fun i b z => e.oN i b (l.o i b z)
theorem take_ok {t : T} {w : V} {v : Val} (e : Ext g H g1 H1) (r : R K g1 st1 σ H1) (q : TW K g H g1 H1 σ t w) (h : mTake t st1 = .ok v st2) : ∃ g2, Ext g H g2 H1 ∧ R K g2 st2 σ H1 ∧ VR K g2 H1 v w ∧ Le g1 g2 ∧ st2.hp = st1.hp := by
  cases t with
  | val u => cases h; exact ⟨g1, e, r, q, .refl, rfl⟩
  | own vs =>
    cases h
    obtain ⟨a, ws, h1, h2, h3, h5, h6, h7⟩ := q
    obtain ⟨l, r'⟩ := r.freeze (a := a) (by rw [h2]; exact fun z => nomatch z) h5 h6
    refine ⟨_, e.grow l fun b z => ?_, r', ?_, l, rfl⟩
    · rcases z with z | rfl
      · exact .inl z
      · exact .inr h7
    · unfold VR
      exact ⟨a, ws, h1, .inr rfl, h2, VRs.le l _ _ h3⟩
  | loc i =>
    have q : σ[i]? = some (some w) := q
    simp only [mTake] at h
    split at h
    · rename_i u eu
      cases h
      obtain ⟨w', h1, h2⟩ := r.vl i _ eu
      rw [q] at h1; cases h1
      exact ⟨g1, e, r, h2, .refl, rfl⟩
    · rename_i vs eu
      cases h
      obtain ⟨a, ws, h1, h2, h3, h4⟩ := r.ow i vs eu
      rw [q] at h2; cases h2
      have hi : i < st1.sl.length := by
        rcases Nat.lt_or_ge i st1.sl.length with h | h
        · exact h
        · rw [List.getElem?_eq_none h] at eu; cases eu
      have l : Le g1 { rho := g1.rho, S := fun b => g1.S b ∨ b = a, O := fun j => if j = i then none else g1.O j } :=
        ⟨rfl, fun _ h => .inl h, fun j b h => by
          have h : (if j = i then none else g1.O j) = some b := h
          split at h
          · cases h
          · exact h⟩
      refine ⟨_, e.grow l fun b z => ?_, ?_, ?_, l, rfl⟩
      · rcases z with z | rfl
        · exact .inl z
        · rcases e.oN i b h1 with q | q
          · exact .inr (.inr q)
          · exact .inr (.inl q)
      · refine { toRH := r.toRH.le l fun b z q => ?_, len := by show (st1.sl.set i _).length = _; rw [List.length_set]; exact r.len, vl := fun j v h => ?_, ow := fun j us h => ?_, oi := fun j b h => ?_, oinj := fun j k b hj hk => r.oinj j k b (l.o _ _ hj) (l.o _ _ hk) }
        · rcases z with z | rfl
          · exact absurd z q
          · exact ⟨(by rw [h3]; exact fun z => (nomatch z)), (r.oi i b h1).2.2⟩
        · have h : (st1.sl.set i (.val (.lst vs)))[j]? = some (Sl.val v) := h
          by_cases hj : i = j
          · subst hj
            rw [List.getElem?_set_self hi] at h
            cases h
            exact ⟨_, q, by unfold VR; exact ⟨a, ws, rfl, .inr rfl, h3, VRs.le l _ _ h4⟩⟩
          · rw [List.getElem?_set_ne hj] at h
            obtain ⟨w, k1, k2⟩ := r.vl j v h
            exact ⟨w, k1, VR.le l _ _ k2⟩
        · have h : (st1.sl.set i (.val (.lst vs)))[j]? = some (Sl.own us) := h
          by_cases hj : i = j
          · subst hj
            rw [List.getElem?_set_self hi] at h
            cases h
          · rw [List.getElem?_set_ne hj] at h
            obtain ⟨b, xs, k1, k2, k3, k4⟩ := r.ow j us h
            exact ⟨b, xs, by show (if j = i then none else g1.O j) = _; rw [if_neg (fun z => hj z.symm)]; exact k1, k2, k3, VRs.le l _ _ k4⟩
        · have hji : j ≠ i := fun z => by
            subst z
            have h : (if j = j then none else g1.O j) = some b := h
            rw [if_pos rfl] at h; cases h
          have hb := l.o j b h
          obtain ⟨⟨us, k0⟩, k1, k2⟩ := r.oi j b hb
          refine ⟨⟨us, by show (st1.sl.set i _)[j]? = _; rw [List.getElem?_set_ne (fun z => hji z.symm)]; exact k0⟩, fun z => ?_, k2⟩
          rcases z with z | rfl
          · exact k1 z
          · exact hji (r.oinj j i b hb h1)
      · unfold VR
        exact ⟨a, ws, rfl, .inr rfl, h3, VRs.le l _ _ h4⟩
    · cases h
theorem takes_ok : ∀ {ts : List T} {ws : List V} {vs : List Val} {g1 : G} {st1 st2 : MS}, Ext g H g1 H1 → R K g1 st1 σ H1 → Paired (TW K g H g1 H1 σ) ts ws → mTakes ts st1 = .ok vs st2 →
    ∃ g2, Ext g H g2 H1 ∧ R K g2 st2 σ H1 ∧ VRs K g2 H1 vs ws ∧ Le g1 g2 ∧ st2.hp = st1.hp
  | [], _, _, g1, st1, st2, e, r, q, h => by cases q; cases h; exact ⟨g1, e, r, VRs.nil, .refl, rfl⟩
  | t :: ts, _, vs, g1, st1, st2, e, r, q, h => by
    cases q with
    | cons q1 q2 =>
      simp only [mTakes] at h
      cases h1 : mTake t st1 with
      | ok v s1 =>
        rw [h1] at h
        have h : (mTakes ts s1).bind (fun vs st2 => .ok (v :: vs) st2) = .ok vs st2 := h
        obtain ⟨g2, e2, r2, v2, l2, p2⟩ := take_ok e r q1 h1
        cases h3 : mTakes ts s1 with
        | ok us s2 =>
          rw [h3] at h
          cases h
          obtain ⟨g3, e3, r3, v3, l3, p3⟩ := takes_ok e2 r2 (prd_map (fun _ _ z => TW.le l2 z) q2) h3
          exact ⟨g3, e3, r3, VRs.cons (VR.le l3 _ _ v2) v3, l2.trans l3, p3.trans p2⟩
        | exc x s2 => rw [h3] at h; cases h
        | bad => rw [h3] at h; cases h
      | exc x s2 => rw [h1] at h; cases h
      | bad => rw [h1] at h; cases h
theorem take_noexc {t : T} {x : Exc} {st1 st2 : MS} : mTake t st1 ≠ .exc x st2 := fun h => by
  cases t with
  | val v => cases h
  | own vs => cases h
  | loc i => simp only [mTake] at h; split at h <;> cases h
theorem takes_noexc {x : Exc} : ∀ {ts : List T} {st1 st2 : MS}, mTakes ts st1 ≠ .exc x st2
  | [], _, _, h => by cases h
  | t :: ts, st1, st2, h => by
    simp only [mTakes] at h
    cases h1 : mTake t st1 with
    | exc y s => exact take_noexc h1
    | bad => rw [h1] at h; cases h
    | ok v s =>
      rw [h1] at h
      have h : (mTakes ts s).bind (fun vs st2 => .ok (v :: vs) st2) = .exc x st2 := h
      cases h3 : mTakes ts s with
      | exc y s' => exact takes_noexc h3
      | bad => rw [h3] at h; cases h
      | ok vs s' => rw [h3] at h; cases h
/-- behind taking -/
theorem Pst.takes {α δ : Type} {RelB : RelT α δ} {ts : List T} {ws : List V} {k : List Val → M α} {Q : δ → Hp → Prop} (e : Ext g H g1 H1) (r : R K g1 st1 σ H1) (q : TRs K g H g1 H1 σ ts ws)
    (h : Pst K mg W RelB g H σ ((mTakes ts st1).bind k) Q) : ∃ g2 st2 vs, Ext g H g2 H1 ∧ R K g2 st2 σ H1 ∧ VRs K g2 H1 vs ws ∧ Pst K mg W RelB g H σ (k vs st2) Q ∧ Le g1 g2 := by
  cases h1 : mTakes ts st1 with
  | exc x s => exact (takes_noexc h1).elim
  | bad => rw [h1] at h; exact h.elim
  | ok vs s =>
    rw [h1] at h
    obtain ⟨g2, e2, r2, v2, l2, _⟩ := takes_ok e r (prd_map (fun _ _ z => z.tw) q) h1
    exact ⟨g2, s, vs, e2, r2, v2, h, l2⟩
theorem Pst.take {α δ : Type} {RelB : RelT α δ} {t : T} {w : V} {k : Val → M α} {Q : δ → Hp → Prop} (e : Ext g H g1 H1) (r : R K g1 st1 σ H1) (q : TR K g H g1 H1 σ t w)
    (h : Pst K mg W RelB g H σ ((mTake t st1).bind k) Q) : ∃ g2 st2 v, Ext g H g2 H1 ∧ R K g2 st2 σ H1 ∧ VR K g2 H1 v w ∧ Pst K mg W RelB g H σ (k v st2) Q := by
  cases h1 : mTake t st1 with
  | exc x s => exact (take_noexc h1).elim
  | bad => rw [h1] at h; exact h.elim
  | ok vs s =>
    rw [h1] at h
    obtain ⟨g2, e2, r2, v2, _, _⟩ := take_ok e r q.tw h1
    exact ⟨g2, s, vs, e2, r2, v2, h⟩
end
/-! ### displays -/
def mTup (ms : M (List T)) : M T := fun st => (ms st).bind fun ts st1 => (mTakes ts st1).bind fun vs st2 => if vs.length ≤ 1000 then .ok (.val (.tup vs)) st2 else .bad
def mLst (ms : M (List T)) : M T := fun st => (ms st).bind fun ts st1 => (mTakes ts st1).bind fun vs st2 => if vs.length ≤ 1000 then .ok (.own vs) st2 else .bad
section
variable {X : Cx} {W : WX} {es : List Expr} {ms : M (List T)} {pos : Pos}
theorem s_tup {x1} (h : SA X W es ms) : SE X W (.Tuple es x1 pos) (mTup ms) := (pe_tup h).im fun σ H Q ⟨g, st, r, p⟩ => ⟨g, st, r, Pst.bind Ext.refl p fun g2 w H2 t st2 e2 _ r2 q2 p2 => by
  obtain ⟨g3, st3, vs, e3, r3, v3, p3, _⟩ := Pst.takes e2 r2 q2 p2
  split at p3
  · rename_i hl
    refine ⟨by rw [← v3.length]; exact Nat.le_trans hl (by decide), fun a ha => ?_⟩
    have d : Add H2 (upd H2 a (.tup w)) := Add.upd ha
    refine p3 g3 _ _ (e3.trans d.ext) (r3.add d) ?_
    show VR _ _ _ _ _
    unfold VR
    exact ⟨a, w, rfl, upd_same, VRs.ext r3.wf d.ext _ _ v3⟩
  · exact p3.elim⟩
theorem s_lst (h : SA X W es ms) : SE X W (.List es pos) (mLst ms) := (pe_lst h).im fun σ H Q ⟨g, st, r, p⟩ => ⟨g, st, r, Pst.bind Ext.refl p fun g2 w H2 t st2 e2 _ r2 q2 p2 => by
  obtain ⟨g3, st3, vs, e3, r3, v3, p3, _⟩ := Pst.takes e2 r2 q2 p2
  split at p3
  · rename_i hl
    refine ⟨by rw [← v3.length]; exact Nat.le_trans hl (by decide), fun a ha => ?_⟩
    have d : Add H2 (upd H2 a (.lst w)) := Add.upd ha
    exact p3 g3 _ _ (e3.trans d.ext) (r3.add d) ⟨a, w, rfl, upd_same, VRs.ext r3.wf d.ext _ _ v3, fun z => r3.sa a z ha, r3.wf.no_rho ha, r3.wf.no_O ha, .inl (e3.nn a ha)⟩
  · exact p3.elim⟩
end
/-! ### a list that several share: a place of the heap -/
def boxT (t : T) : M T := fun st => match t with
  | .own vs => .ok (.val (.ref st.hp.length)) { st with hp := st.hp ++ [.lst vs] }
  | _ => .bad
def mBox (m : M T) : M T := fun st => (m st).bind boxT
section
variable {K : PySem.W.Frag} {mg : Str → Option Value} {g g0 g1 g2 : G} {H H0 H1 H2 : Hp} {st st1 st2 : MS} {σ : L2.St} {W : WX}
mutual
theorem VR.up (hr : ∀ n a, g1.rho n = some a → g2.rho n = some a) (hs : ∀ a, g1.S a → g2.S a) : ∀ (v : Val) (w : V), VR K g1 H v w → VR K g2 H v w
  | .non, x, h => by unfold VR at h ⊢; exact h
  | .bl b, x, h => by unfold VR at h ⊢; exact h
  | .int i, x, h => by unfold VR at h ⊢; exact h
  | .str s, x, h => by unfold VR at h ⊢; exact h
  | .ty s, x, h => by unfold VR at h ⊢; exact h
  | .adr s d ns vs, x, h => by
    unfold VR at h ⊢
    obtain ⟨h1, h2 | ⟨p, ws, h2, h3, h4, h5⟩⟩ := h
    · exact ⟨h1, .inl h2⟩
    · exact ⟨h1, .inr ⟨p, ws, h2, h3, h4, VRs.up hr hs vs _ h5⟩⟩
  | .lam s, x, h => by unfold VR at h ⊢; exact h
  | .tup vs, x, h => by
    unfold VR at h ⊢
    obtain ⟨a, ws, h1, h2, h3⟩ := h
    exact ⟨a, ws, h1, h2, VRs.up hr hs vs ws h3⟩
  | .ktup vs, x, h => by
    unfold VR at h ⊢
    obtain ⟨a, ws, h1, h2, h3⟩ := h
    exact ⟨a, ws, h1, h2, VRs.up hr hs vs ws h3⟩
  | .lst vs, x, h => by
    unfold VR at h ⊢
    obtain ⟨a, ws, h1, h0, h2, h3⟩ := h
    exact ⟨a, ws, h1, hs a h0, h2, VRs.up hr hs vs ws h3⟩
  | .scr vs, x, h => by
    unfold VR at h ⊢
    obtain ⟨a, ws, h1, h2, h3⟩ := h
    exact ⟨a, ws, h1, h2.imp (fun z => ⟨hs a z.1, z.2⟩) (fun z => z), VRs.up hr hs vs ws h3⟩
  | .ref n, x, h => by
    unfold VR at h ⊢
    obtain ⟨a, h1, h2⟩ := h
    exact ⟨a, hr _ _ h1, h2⟩
theorem VRs.up (hr : ∀ n a, g1.rho n = some a → g2.rho n = some a) (hs : ∀ a, g1.S a → g2.S a) : ∀ (vs : List Val) (ws : List V), VRs K g1 H vs ws → VRs K g2 H vs ws
  | [], x, h => by unfold VRs at h ⊢; exact h
  | v :: vs, x, h => by
    unfold VRs at h ⊢
    obtain ⟨a, r, h1, h2, h3⟩ := h
    exact ⟨a, r, h1, VR.up hr hs v a h2, VRs.up hr hs vs r h3⟩
end
theorem OR.up (hr : ∀ n a, g1.rho n = some a → g2.rho n = some a) (hs : ∀ a, g1.S a → g2.S a) {o : Ob} {a : Addr} (h : OR K g1 H o a) : OR K g2 H o a := h.imp (VR.up hr hs) rfl
/-- a new place of the heap, at the address a -/
def gNew (g : G) (n : Nat) (a : Addr) : G := { g with rho := fun m => if m = n then some a else g.rho m }
theorem R.place {a : Addr} {o : Ob} (r : R K g1 st1 σ H1) (hs : ¬ g1.S a) (hr : ∀ n, g1.rho n ≠ some a) (hO : ∀ i, g1.O i ≠ some a) (ho : OR K g1 H1 o a) :
    R K (gNew g1 st1.hp.length a) { st1 with hp := st1.hp ++ [o] } σ H1 := by
  have no : ∀ b, g1.rho st1.hp.length ≠ some b := fun b z => absurd (r.dom _ _ z) (Nat.lt_irrefl _)
  have up : ∀ n b, g1.rho n = some b → (gNew g1 st1.hp.length a).rho n = some b := fun n b z => by
    show (if n = st1.hp.length then some a else g1.rho n) = some b
    rw [if_neg (fun q => by rw [q] at z; exact no b z)]; exact z
  have dn : ∀ n b, (gNew g1 st1.hp.length a).rho n = some b → g1.rho n = some b ∨ (n = st1.hp.length ∧ b = a) := fun n b z => by
    have z : (if n = st1.hp.length then some a else g1.rho n) = some b := z
    split at z
    · rename_i q; cases z; exact .inr ⟨q, rfl⟩
    · exact .inl z
  have us : ∀ b, g1.S b → (gNew g1 st1.hp.length a).S b := fun b z => z
  refine { dom := fun n b z => ?_, ob := fun n o' z => ?_, inj := fun n m b z y => ?_, sr := fun n b z => ?_, sa := r.sa, tb := r.tb, len := r.len, vl := fun i v z => ?_, ow := fun i vs z => ?_, oi := fun i b z => ?_, oinj := r.oinj }
  · show n < (st1.hp ++ [o]).length
    rw [List.length_append]
    rcases dn n b z with z | ⟨z, _⟩
    · exact Nat.lt_of_lt_of_le (r.dom n b z) (Nat.le_add_right _ _)
    · rw [z]; exact Nat.lt_succ_self _
  · have z : (st1.hp ++ [o])[n]? = some o' := z
    by_cases hn : n < st1.hp.length
    · rw [List.getElem?_append_left hn] at z
      obtain ⟨b, k1, k2⟩ := r.ob n o' z
      exact ⟨b, up _ _ k1, k2.up up us⟩
    · have hn2 : n = st1.hp.length := by
        rcases Nat.lt_or_ge n (st1.hp ++ [o]).length with q | q
        · rw [List.length_append] at q
          have : [o].length = 1 := rfl
          omega
        · rw [List.getElem?_eq_none q] at z; cases z
      subst hn2
      rw [List.getElem?_append_right (Nat.le_refl _), Nat.sub_self] at z
      have z : o = o' := Option.some.inj z
      subst z
      exact ⟨a, by show (if _ = _ then _ else _) = _; rw [if_pos rfl], ho.up up us⟩
  · rcases dn n b z with z | ⟨z, q⟩
    · rcases dn m b y with y | ⟨y, q2⟩
      · exact r.inj n m b z y
      · rw [q2] at z; exact (hr n z).elim
    · rcases dn m b y with y | ⟨y, q2⟩
      · rw [q] at y; exact (hr m y).elim
      · rw [z, y]
  · rcases dn n b z with z | ⟨_, q⟩
    · exact r.sr n b z
    · rw [q]; exact hs
  · obtain ⟨w, h1, h2⟩ := r.vl i v z
    exact ⟨w, h1, VR.up up us _ _ h2⟩
  · obtain ⟨b, ws, h1, h2, h3, h4⟩ := r.ow i vs z
    exact ⟨b, ws, h1, h2, h3, VRs.up up us _ _ h4⟩
  · obtain ⟨h1, h2, h3⟩ := r.oi i b z
    refine ⟨h1, h2, fun n y => ?_⟩
    rcases dn n b y with y | ⟨_, q⟩
    · exact h3 n y
    · rw [q] at z; exact hO i z
theorem Ext.place {a : Addr} {n : Nat} (e : Ext g H g1 H1) (hn : ∀ b, g1.rho n ≠ some b) (hw : H a = none ∨ ∃ i, g.O i = some a) : Ext g H (gNew g1 n a) H1 where
  rho := fun m b z => by
    have z := e.rho m b z
    show (if m = n then some a else g1.rho m) = some b
    rw [if_neg (fun q => by rw [q] at z; exact hn b z)]; exact z
  s := e.s
  fr := e.fr
  nn := e.nn
  rhoN := fun m b z => by
    have z : (if m = n then some a else g1.rho m) = some b := z
    split at z
    · cases z; exact .inr hw
    · exact e.rhoN m b z
  sN := e.sN
  oN := e.oN
theorem box_ok {vs : List Val} {w : V} (e : Ext g H g1 H1) (r : R K g1 st1 σ H1) (q : TR K g H g1 H1 σ (.own vs) w) :
    ∃ g2, Ext g H g2 H1 ∧ R K g2 { st1 with hp := st1.hp ++ [.lst vs] } σ H1 ∧ VR K g2 H1 (.ref st1.hp.length) w := by
  obtain ⟨a, ws, rfl, h2, h3, h4, h5, h6, h7⟩ := q
  refine ⟨gNew g1 st1.hp.length a, e.place (fun b z => absurd (r.dom _ _ z) (Nat.lt_irrefl _)) h7, r.place h4 h5 h6 ⟨ws, h2, h3⟩, ?_⟩
  unfold VR
  exact ⟨a, by show (if _ = _ then _ else _) = _; rw [if_pos rfl], rfl⟩
end
theorem s_box {X : Cx} {W : WX} {e : Expr} {m : M T} (h : SE X W e m) : SE X W e (mBox m) := h.im fun σ H Q ⟨g, st, r, p⟩ => ⟨g, st, r, Pst.bind Ext.refl p fun g2 w H2 t st2 e2 _ r2 q2 p2 => by
  cases t with
  | own vs =>
    obtain ⟨g3, e3, r3, v3⟩ := box_ok e2 r2 q2
    exact p2 g3 _ _ e3 r3 v3
  | val _ => exact p2.elim
  | loc _ => exact p2.elim⟩

/-! ### defs -/
def TF (K : PySem.W.Frag) : RelT T V := fun g0 H0 g H _ t w => TR K g0 H0 g H [] t w
def FPst (K : PySem.W.Frag) (mg : Str → Option Value) (g : G) (H : Hp) (r : Out T) (Q : VK) (E : XK) : Prop := match r with
  | .ok t st' => ∀ g' w H', Ext g H g' H' → (∀ i, g'.O i = none) → RH K g' st'.hp H' → TR K g H g' H' [] t w → Q w H'
  | .exc e st' => ∀ g' cls d H', Ext g H g' H' → (∀ i, g'.O i = none) → RH K g' st'.hp H' → XR K mg g' H' e cls d → E cls d H'
  | .bad => False
abbrev MF := List Val → List Ob → Out T
def spM (K : PySem.W.Frag) (mg : Str → Option Value) (n : Nat) (mf : MF) : Sp := fun ws H Q E => ∃ g hp vs, vs.length = n ∧ (∀ i, g.O i = none) ∧ RH K g hp H ∧ VRs K g H vs ws ∧ FPst K mg g H (mf vs hp) Q E
theorem spM.len {K : PySem.W.Frag} {mg : Str → Option Value} {n : Nat} {mf : MF} {ws : List V} {H : Hp} {Q : VK} {E : XK} (h : spM K mg n mf ws H Q E) : ws.length = n := by
  obtain ⟨g, hp, vs, rfl, _, _, h, _⟩ := h
  exact h.length.symm
/-- behind a call: the caller's slots -/
def back (st : MS) : Out T → Out T
  | .ok t s => .ok t { st with hp := s.hp }
  | .exc e s => .exc e { st with hp := s.hp }
  | .bad => .bad
def mCall (n : Nat) (mf : MF) (ms : M (List T)) : M T := fun st => (ms st).bind fun ts st1 => (mTakes ts st1).bind fun vs st2 => if vs.length = n then back st2 (mf vs st2.hp) else .bad
section
variable {K : PySem.W.Frag} {mg : Str → Option Value} {g g0 g1 g2 g3 : G} {H H0 H1 H2 H3 : Hp} {st st1 st2 : MS} {σ : L2.St} {W : WX}
abbrev G.cut (g : G) : G := { g with O := fun _ => none }
theorem VR.O (O : Nat → Option Addr) {v : Val} {w : V} (h : VR K g H v w) : VR K { g with O := O } H v w := VR.up (g1 := g) (g2 := { g with O := O }) (fun _ _ z => z) (fun _ z => z) _ _ h
theorem VRs.O (O : Nat → Option Addr) {v : List Val} {w : List V} (h : VRs K g H v w) : VRs K { g with O := O } H v w := VRs.up (g1 := g) (g2 := { g with O := O }) (fun _ _ z => z) (fun _ z => z) _ _ h
theorem OR.O (O : Nat → Option Addr) {o : Ob} {a : Addr} (h : OR K g H o a) : OR K { g with O := O } H o a := OR.up (g1 := g) (g2 := { g with O := O }) (fun _ _ z => z) (fun _ z => z) h
theorem RH.O (O : Nat → Option Addr) {hp : List Ob} (r : RH K g hp H) : RH K { g with O := O } hp H := ⟨r.dom, fun n o h => let ⟨a, h1, h2⟩ := r.ob n o h; ⟨a, h1, h2.O O⟩, r.inj, r.sr, r.sa, r.tb⟩
/-- the caller's world behind a call -/
theorem R.called {hp' : List Ob} (r : R K g2 st2 σ H2) (e : Ext g2.cut H2 g3 H3) (rh : RH K g3 hp' H3) :
    Ext g2 H2 { g3 with O := g2.O } H3 ∧ R K { g3 with O := g2.O } { st2 with hp := hp' } σ H3 := by
  have ex : Ext g2 H2 { g3 with O := g2.O } H3 :=
    ⟨e.rho, e.s, fun a o h t hr ho => e.fr a o h t hr (fun i z => (nomatch z)), e.nn,
      fun n a h => (e.rhoN n a h).elim .inl fun z => z.elim (fun z => .inr (.inl z)) fun ⟨i, z⟩ => (nomatch z),
      fun a h => (e.sN a h).elim .inl fun z => z.elim (fun z => .inr (.inl z)) fun ⟨i, z⟩ => (nomatch z),
      fun i a h => .inl ⟨i, h⟩⟩
  have wf := r.wf
  have onew : ∀ i a, g2.O i = some a → (¬ g3.S a) ∧ ∀ n, g3.rho n ≠ some a := fun i a h => by
    obtain ⟨⟨vs, q⟩, h2, h3⟩ := r.oi i a h
    have hn : ¬ H2 a = none := fun z => by have := wf.ot i a h; rw [z] at this; exact this
    refine ⟨fun z => ?_, fun n z => ?_⟩
    · rcases e.sN a z with q | q | ⟨_, q⟩
      · exact h2 q
      · exact hn q
      · cases q
    · rcases e.rhoN n a z with q | q | ⟨_, q⟩
      · exact h3 n q
      · exact hn q
      · cases q
  refine ⟨ex, { toRH := rh.O _, len := r.len, vl := fun i v h => ?_, ow := fun i vs h => ?_, oi := fun i a h => ?_, oinj := r.oinj }⟩
  · obtain ⟨w, h1, h2⟩ := r.vl i v h
    exact ⟨w, h1, VR.ext wf ex _ _ h2⟩
  · obtain ⟨a, ws, h1, h2, h3, h4⟩ := r.ow i vs h
    refine ⟨a, ws, h1, h2, e.fr a _ h3 (fun _ z => nomatch z) (r.oi i a h1).2.2 (fun _ z => nomatch z), VRs.ext wf ex _ _ h4⟩
  · exact ⟨(r.oi i a h).1, (onew i a h).1, (onew i a h).2⟩
theorem XR.O {e : Exc} {cls : Value} {d : Option Addr} {O : Nat → Option Addr} (h : XR K mg g H e cls d) : XR K mg { g with O := O } H e cls d := by
  obtain ⟨h1, h2⟩ := h
  refine ⟨h1, ?_⟩
  split at h2
  · exact h2
  · obtain ⟨p, ws, h3, h4, h5, h6⟩ := h2
    exact ⟨p, ws, h3, h4, h5, h6.O _⟩
theorem call_ok {n : Nat} {mf : MF} {ts : List T} {ws : List V} {Q : VK} (e : Ext g H g1 H1) (r : R K g1 st1 σ H1) (q : TRs K g H g1 H1 σ ts ws)
    (h : Pst K mg W (TR K) g H σ ((mTakes ts st1).bind fun vs st2 => if vs.length = n then back st2 (mf vs st2.hp) else .bad) Q) : spM K mg n mf ws H1 Q (WE W σ) := by
  obtain ⟨g2, st2, vs, e2, r2, v2, p2, _⟩ := Pst.takes e r q h
  split at p2
  · rename_i hl
    refine ⟨g2.cut, st2.hp, vs, hl, fun _ => rfl, r2.toRH.O _, v2.O _, ?_⟩
    cases hm : mf vs st2.hp with
    | bad => rw [hm] at p2; exact p2.elim
    | exc x s =>
      rw [hm] at p2
      intro g' cls d H' e' o' r' x'
      obtain ⟨ex, rr⟩ := r2.called e' r'
      exact p2 _ cls d H' (e2.trans ex) rr x'.O
    | ok t s =>
      rw [hm] at p2
      intro g' w H' e' o' r' t'
      obtain ⟨ex, rr⟩ := r2.called e' r'
      refine p2 _ w H' (e2.trans ex) rr ?_
      cases t with
      | val v => exact VR.O _ (show VR K g' H' v w from t')
      | loc i => exact nomatch (show ([] : L2.St)[i]? = some (some w) from t')
      | own us =>
        obtain ⟨a, xs, h1, h2, h3, h4, h5, h6, h7⟩ := t'
        have hn : H1 a = none := h7.elim (fun z => z) fun ⟨_, z⟩ => nomatch z
        exact ⟨a, xs, h1, h2, h3.O _, h4, h5, r2.wf.no_O hn, .inl (e2.nn a hn)⟩
  · exact p2.elim
end
section
variable {X : Cx} {W : WX} {k n : Nat} {f : Addr} {fd : FuncData} {ps : List Str} {mf : MF} {x : Str} {p pos : Pos} {e : Expr} {es : List Expr} {ms : M (List T)}
theorem s_call (tk : Takes X W) (F : FnOk X.prog X.w X.K X.mg X.base (L2.CX X.prog X.w) k f fd ps (spM X.K X.mg n mf)) (hr : Room k X.A) (hg : Gl X x) (hm : X.mg x = some (.ref f)) (hk : PySem.W.keepIn X.K (.ref f) = true) (hb : Binds X.K fd ps [])
    (ha : SA X W (e :: es) ms) (hdb : (x == ("__debug__" : Str)) = false := by decide) (he : starEach (e :: es) X.env = (false, eval e X.env) :: starEach es X.env := by rfl) (hpl : (backTo pos (starEach es X.env)).any (·.1) = false := by rfl) :
    SE X W (.Call (.Name x p) (e :: es) [] pos) (mCall n mf ms) :=
  (pe_callS F hr hg hm hk hb (fun σ => passAt tk σ) ha hdb he hpl).im fun σ H Q ⟨g, st, r, p⟩ => ⟨g, st, r, Pst.bind Ext.refl p fun g2 w H2 t st2 e2 _ r2 q2 p2 => call_ok e2 r2 q2 p2⟩
end
end Sm

namespace Sm
open PySem L2
/-! ### statements -/
inductive Fl where
  | nx | brk | cnt | ret (t : T)
def SPst (K : PySem.W.Frag) (mg : Str → Option Value) (W : WX) (g : G) (H : Hp) (r : Out Fl) (D : Ends) : Prop := match r with
  | .ok .nx st' => ∀ g' σ' H', Ext g H g' H' → R K g' st' σ' H' → D.nx σ' H'
  | .ok .brk st' => ∀ g' σ' H', Ext g H g' H' → R K g' st' σ' H' → D.bk σ' H'
  | .ok .cnt st' => ∀ g' σ' H', Ext g H g' H' → R K g' st' σ' H' → D.ct σ' H'
  | .ok (.ret t) st' => ∀ g' w σ' H', Ext g H g' H' → R K g' st' σ' H' → TR K g H g' H' σ' t w → (∀ i, t ≠ .loc i) → D.rt w H'
  | .exc e st' => ∀ g' cls d σ' H', Ext g H g' H' → R K g' st' σ' H' → XR K mg g' H' e cls d → W cls d σ' H'
  | .bad => False
def sS (K : PySem.W.Frag) (mg : Str → Option Value) (W : WX) (m : M Fl) : TS := fun D σ H => ∃ g st, R K g st σ H ∧ SPst K mg W g H (m st) D
abbrev SS (X : Cx) (W : WX) (s : Stmt) (m : M Fl) : Prop := PS X s (sS X.K X.mg W m)
abbrev SSs (X : Cx) (W : WX) (s : List Stmt) (m : M Fl) : Prop := PSs X s (sS X.K X.mg W m)
section
variable {α γ : Type} {K : PySem.W.Frag} {mg : Str → Option Value} {g g0 g1 g2 : G} {H H0 H1 H2 : Hp} {st st1 st2 : MS} {σ : L2.St} {W : WX} {D D' : Ends} {RelA : RelT α γ}
theorem SPst.bind {r : Out α} {k : α → M Fl} {Q1 : γ → Hp → Prop} (e : Ext g H g1 H1) (h : SPst K mg W g H (r.bind k) D)
    (hq : ∀ g2 w H2 t st2, Ext g H g2 H2 → Ext g1 H1 g2 H2 → R K g2 st2 σ H2 → RelA g1 H1 g2 H2 σ t w → SPst K mg W g H (k t st2) D → Q1 w H2) : Pst K mg W RelA g1 H1 σ r Q1 := by
  cases r with
  | ok t st' => exact fun g' w H' e' r' t' => hq g' w H' t st' (e.trans e') e' r' t' h
  | exc x st' => exact fun g' c d H' e' r' t' => h g' c d σ H' (e.trans e') r' t'
  | bad => exact h
theorem SPst.sh {r : Out Fl} (e : Ext g H g1 H1) (h : SPst K mg W g H r D) : SPst K mg W g1 H1 r D := by
  cases r with
  | bad => exact h
  | exc x st' => exact fun g' c d σ' H' e' r' t' => h g' c d σ' H' (e.trans e') r' t'
  | ok f st' =>
    cases f with
    | nx => exact fun g' σ' H' e' r' => h g' σ' H' (e.trans e') r'
    | brk => exact fun g' σ' H' e' r' => h g' σ' H' (e.trans e') r'
    | cnt => exact fun g' σ' H' e' r' => h g' σ' H' (e.trans e') r'
    | ret t => exact fun g' w σ' H' e' r' t' n => h g' w σ' H' (e.trans e') r' (TR.rel.sh e t') n
theorem SPst.take {t : T} {w : V} {k : Val → M Fl} (e : Ext g H g1 H1) (r : R K g1 st1 σ H1) (q : TR K g H g1 H1 σ t w)
    (h : SPst K mg W g H ((mTake t st1).bind k) D) : ∃ g2 st2 v, Ext g H g2 H1 ∧ R K g2 st2 σ H1 ∧ VR K g2 H1 v w ∧ SPst K mg W g H (k v st2) D := by
  cases h1 : mTake t st1 with
  | exc x s => exact (take_noexc h1).elim
  | bad => rw [h1] at h; exact h.elim
  | ok vs s =>
    rw [h1] at h
    obtain ⟨g2, e2, r2, v2, _, _⟩ := take_ok e r q.tw h1
    exact ⟨g2, s, vs, e2, r2, v2, h⟩
end
def mSkip : M Fl := fun st => .ok .nx st
def mSeq (a b : M Fl) : M Fl := fun st => (a st).bind fun f st1 => match f with
  | .nx => b st1
  | f => .ok f st1
def mBad : M Fl := fun _ => .bad
def mExpr (m : M T) : M Fl := fun st => (m st).bind fun _ st1 => .ok .nx st1
def mPure (f : Fl) : M Fl := fun st => .ok f st
/-- a list that a def gives back is handed on whole -/
def give (t : T) : M T := fun st => match t with
  | .loc i => match st.sl[i]? with
    | some (.val v) => .ok (.val v) st
    | some (.own vs) => .ok (.own vs) { st with sl := st.sl.set i .no }
    | _ => .bad
  | t => .ok t st
def mRet (m : M T) : M Fl := fun st => (m st).bind fun t st1 => (give t st1).bind fun t2 st2 => .ok (.ret t2) st2
def mIf (c : M Bool) (a b : M Fl) : M Fl := fun st => (c st).bind fun k st1 => if k = true then a st1 else b st1
section
variable {X : Cx} {W : WX} {s : Stmt} {a b rest : List Stmt} {e c : Expr} {m : M T} {na nb : M Fl} {mc : M Bool} {pos : Pos}
theorem b_nil : SSs X W [] mSkip := pss_nil.im fun D σ H ⟨g, st, r, p⟩ => p g σ H Ext.refl r
theorem SPst.seq {K : PySem.W.Frag} {mg : Str → Option Value} {g : G} {H : Hp} {D : Ends} {r : Out Fl} (h : SPst K mg W g H (r.bind fun f st1 => match f with
  | .nx => nb st1
  | f => .ok f st1) D) : SPst K mg W g H r { D with nx := sS K mg W nb D } := by
  cases r with
  | bad => exact h
  | exc x st' => exact h
  | ok f st' =>
    cases f with
    | nx => exact fun g' σ' H' e' r' => ⟨g', st', r', SPst.sh e' h⟩
    | brk => exact h
    | cnt => exact h
    | ret t => exact h
theorem b_cons (h1 : SS X W s na) (h2 : SSs X W rest nb) : SSs X W (s :: rest) (mSeq na nb) := (pss_cons h1 h2).im fun D σ H ⟨g, st, r, p⟩ => ⟨g, st, r, p.seq⟩
theorem b_one (h1 : SS X W s na) : SSs X W [s] na := pss_one h1
theorem k_bad : SS X W s mBad := ps_never.im fun D σ H ⟨g, st, r, p⟩ => p
theorem k_pass : SS X W (.Pass pos) mSkip := ps_pass.im fun D σ H ⟨g, st, r, p⟩ => p g σ H Ext.refl r
theorem k_break : SS X W (.Break pos) (mPure .brk) := ps_break.im fun D σ H ⟨g, st, r, p⟩ => p g σ H Ext.refl r
theorem k_continue : SS X W (.Continue pos) (mPure .cnt) := ps_continue.im fun D σ H ⟨g, st, r, p⟩ => p g σ H Ext.refl r
theorem k_expr (he : SE X W e m) (hs : swapsWith e none pos.line X.env = pure false := by rfl) : SS X W (.Expr e pos) (mExpr m) := (ps_expr he hs).im fun D σ H ⟨g, st, r, p⟩ =>
  ⟨g, st, r, SPst.bind Ext.refl p fun g2 w H2 t st2 e2 _ r2 q2 p2 => p2 g2 σ H2 e2 r2⟩
theorem k_if (hc : ST X W c mc) (ha : SSs X W a na) (hb : SSs X W b nb) : SS X W (.If c a b pos) (mIf mc na nb) := (ps_if hc ha hb).im fun D σ H ⟨g, st, r, p⟩ =>
  ⟨g, st, r, SPst.bind (RelA := RB) Ext.refl p fun g2 w H2 t st2 e2 _ r2 q2 p2 => by
    have q2 : w = t := q2
    subst q2
    cases w with
    | true => exact iteT ⟨g2, st2, r2, SPst.sh e2 p2⟩
    | false => exact iteF ⟨g2, st2, r2, SPst.sh e2 p2⟩⟩
end
section
variable {K : PySem.W.Frag} {mg : Str → Option Value} {g g0 g1 g2 : G} {H H0 H1 H2 : Hp} {st st1 st2 : MS} {σ : L2.St} {W : WX} {D : Ends}
/-- a slot gets a new content; what was in it is forgotten -/
theorem R.drop {i : Nat} (r : R K g1 st1 σ H1) (hi : i < st1.sl.length) : R K { g1 with O := fun j => if j = i then none else g1.O j } { st1 with sl := st1.sl.set i .no } σ H1 := by
  have dn : ∀ j b, (if j = i then none else g1.O j) = some b → j ≠ i ∧ g1.O j = some b := fun j b z => by
    split at z
    · cases z
    · rename_i q; exact ⟨q, z⟩
  refine { toRH := r.toRH.O _, len := by show (st1.sl.set i _).length = _; rw [List.length_set]; exact r.len, vl := fun j v z => ?_, ow := fun j vs z => ?_, oi := fun j b z => ?_, oinj := fun j k b z y => r.oinj j k b (dn j b z).2 (dn k b y).2 }
  · have z : (st1.sl.set i .no)[j]? = some (Sl.val v) := z
    by_cases hj : i = j
    · subst hj; rw [List.getElem?_set_self hi] at z; cases z
    · rw [List.getElem?_set_ne hj] at z
      obtain ⟨w, h1, h2⟩ := r.vl j v z
      exact ⟨w, h1, h2.O _⟩
  · have z : (st1.sl.set i .no)[j]? = some (Sl.own vs) := z
    by_cases hj : i = j
    · subst hj; rw [List.getElem?_set_self hi] at z; cases z
    · rw [List.getElem?_set_ne hj] at z
      obtain ⟨a, ws, h1, h2, h3, h4⟩ := r.ow j vs z
      exact ⟨a, ws, by show (if j = i then none else g1.O j) = _; rw [if_neg (fun q => hj q.symm)]; exact h1, h2, h3, h4.O _⟩
  · obtain ⟨z1, z2⟩ := dn j b z
    obtain ⟨⟨vs, k0⟩, k1, k2⟩ := r.oi j b z2
    exact ⟨⟨vs, by show (st1.sl.set i .no)[j]? = _; rw [List.getElem?_set_ne (fun q => z1 q.symm)]; exact k0⟩, k1, k2⟩
theorem Ext.O {O : Nat → Option Addr} (e : Ext g H g1 H1) (h : ∀ i a, O i = some a → (∃ j, g.O j = some a) ∨ H a = none) : Ext g H { g1 with O := O } H1 := ⟨e.rho, e.s, e.fr, e.nn, e.rhoN, e.sN, h⟩
theorem lt_of_get {α : Type} {l : List α} {i : Nat} {x : α} (h : l[i]? = some x) : i < l.length := by
  rcases Nat.lt_or_ge i l.length with q | q
  · exact q
  · rw [List.getElem?_eq_none q] at h; cases h
theorem give_ok {t t2 : T} {w : V} (e : Ext g H g1 H1) (r : R K g1 st1 σ H1) (q : TR K g H g1 H1 σ t w) (h : give t st1 = .ok t2 st2) :
    ∃ g2, Ext g H g2 H1 ∧ R K g2 st2 σ H1 ∧ TR K g H g2 H1 σ t2 w ∧ ∀ i, t2 ≠ .loc i := by
  cases t with
  | val v => cases h; exact ⟨g1, e, r, q, fun i z => by cases z⟩
  | own vs => cases h; exact ⟨g1, e, r, q, fun i z => by cases z⟩
  | loc i =>
    have q : σ[i]? = some (some w) := q
    simp only [give] at h
    split at h
    · rename_i u eu
      cases h
      obtain ⟨w', h1, h2⟩ := r.vl i _ eu
      rw [q] at h1; cases h1
      exact ⟨g1, e, r, h2, fun i z => by cases z⟩
    · rename_i vs eu
      cases h
      obtain ⟨a, ws, h1, h2, h3, h4⟩ := r.ow i vs eu
      rw [q] at h2; cases h2
      obtain ⟨_, o2, o3⟩ := r.oi i a h1
      refine ⟨_, e.O fun j b z => ?_, r.drop (lt_of_get eu), ⟨a, ws, rfl, h3, h4.O _, o2, o3, fun j z => ?_, (e.oN i a h1).elim .inr .inl⟩, fun i z => by cases z⟩
      · have z : (if j = i then none else g1.O j) = some b := z
        split at z
        · cases z
        · exact e.oN j b z
      · have z : (if j = i then none else g1.O j) = some a := z
        split at z
        · cases z
        · rename_i hj; exact hj (r.oinj j i a z h1)
    · cases h
theorem give_noexc {t : T} {x : Exc} {st1 st2 : MS} : give t st1 ≠ .exc x st2 := fun h => by
  cases t with
  | val v => cases h
  | own vs => cases h
  | loc i => simp only [give] at h; split at h <;> cases h
end
theorem k_ret {X : Cx} {W : WX} {e : Expr} {m : M T} {pos : Pos} (he : SE X W e m) : SS X W (.Return (some e) pos) (mRet m) := (ps_ret he).im fun D σ H ⟨g, st, r, p⟩ =>
  ⟨g, st, r, SPst.bind Ext.refl p fun g2 w H2 t st2 e2 _ r2 q2 p2 => by
    cases h : give t st2 with
    | bad => rw [h] at p2; exact p2.elim
    | exc x s => exact (give_noexc h).elim
    | ok t2 s2 =>
      rw [h] at p2
      obtain ⟨g3, e3, r3, q3, n3⟩ := give_ok e2 r2 q2 h
      exact p2 g3 w σ H2 e3 r3 q3 n3⟩
/-! ### targets -/
/-- the slots outside F are as they were -/
structure Agr (F : Nat → Bool) (σ σ' : L2.St) : Prop where
  len : σ'.length = σ.length
  out : ∀ i, F i = false → σ'[i]? = σ[i]?
theorem Agr.refl {F : Nat → Bool} {σ : L2.St} : Agr F σ σ := ⟨rfl, fun _ _ => rfl⟩
theorem Agr.trans {F : Nat → Bool} {σ σ1 σ2 : L2.St} (a : Agr F σ σ1) (b : Agr F σ1 σ2) : Agr F σ σ2 := ⟨b.len.trans a.len, fun i h => (b.out i h).trans (a.out i h)⟩
theorem Agr.set {F : Nat → Bool} {σ : L2.St} {i : Nat} {v : Option V} (h : F i = true) : Agr F σ (σ.set i v) := ⟨List.length_set, fun j hj => List.getElem?_set_ne (fun z => by rw [← z, h] at hj; cases hj)⟩
abbrev fAll : Nat → Bool := fun _ => true
def GPst (K : PySem.W.Frag) (mg : Str → Option Value) (W : WX) (F : Nat → Bool) (g : G) (H : Hp) (σ : L2.St) (r : Out Unit) (Q : L2.St → Hp → Prop) : Prop := match r with
  | .ok _ st' => ∀ g' σ' H', Ext g H g' H' → R K g' st' σ' H' → Agr F σ σ' → Q σ' H'
  | .exc e st' => ∀ g' cls d σ' H', Ext g H g' H' → R K g' st' σ' H' → XR K mg g' H' e cls d → W cls d σ' H'
  | .bad => False
def sG (K : PySem.W.Frag) (mg : Str → Option Value) (W : WX) (F : Nat → Bool) (mt : T → M Unit) : TG := fun w σ H1 Q => ∃ g H g1 st1 t, Ext g H g1 H1 ∧ R K g1 st1 σ H1 ∧ TR K g H g1 H1 σ t w ∧ GPst K mg W F g H σ (mt t st1) Q
def sGs (K : PySem.W.Frag) (mg : Str → Option Value) (W : WX) (F : Nat → Bool) (mt : List Val → M Unit) : TGs := fun ws σ H1 Q => ∃ g H g1 st1 vs, Ext g H g1 H1 ∧ R K g1 st1 σ H1 ∧ VRs K g1 H1 vs ws ∧ GPst K mg W F g H σ (mt vs st1) Q
abbrev SG (X : Cx) (W : WX) (F : Nat → Bool) (e : Expr) (mt : T → M Unit) : Prop := PG X e (sG X.K X.mg W F mt)
abbrev SGs (X : Cx) (W : WX) (F : Nat → Bool) (es : List Expr) (mt : List Val → M Unit) : Prop := PGs X es (sGs X.K X.mg W F mt)
theorem _root_.L2.PG.im {X : Cx} {e : Expr} {t t' : TG} (h : PG X e t) (hi : ∀ v σ H Q, t' v σ H Q → t v σ H Q) : PG X e t' := ⟨fun pins s v u σ H Q I r q => h.run pins s v u σ H Q I r (hi _ _ _ _ q)⟩
theorem _root_.L2.PGs.im {X : Cx} {e : List Expr} {t t' : TGs} (h : PGs X e t) (hi : ∀ v σ H Q, t' v σ H Q → t v σ H Q) : PGs X e t' := ⟨fun pins s v u σ H Q I r q => h.run pins s v u σ H Q I r (hi _ _ _ _ q)⟩
def setV (i : Nat) (v : Val) : M Unit := fun st => if i < st.sl.length then .ok () { st with sl := st.sl.set i (.val v) } else .bad
def mGN (i : Nat) (t : T) : M Unit := fun st => match t with
  | .val v => setV i v st
  | .own vs => if i < st.sl.length then .ok () { st with sl := st.sl.set i (.own vs) } else .bad
  | .loc j => (mTake (.loc j) st).bind (setV i)
section
variable {K : PySem.W.Frag} {mg : Str → Option Value} {g g0 g1 g2 : G} {H H0 H1 H2 : Hp} {st st1 st2 : MS} {σ : L2.St} {W : WX}
def oNo (O : Nat → Option Addr) (i : Nat) : Nat → Option Addr := fun j => if j = i then none else O j
def oAt (O : Nat → Option Addr) (i : Nat) (a : Addr) : Nat → Option Addr := fun j => if j = i then some a else O j
theorem oNo_dn {O : Nat → Option Addr} {i j : Nat} {b : Addr} (z : oNo O i j = some b) : j ≠ i ∧ O j = some b := by
  unfold oNo at z
  split at z
  · cases z
  · rename_i q; exact ⟨q, z⟩
theorem oAt_dn {O : Nat → Option Addr} {i j : Nat} {a b : Addr} (z : oAt O i a j = some b) : (j = i ∧ b = a) ∨ (j ≠ i ∧ O j = some b) := by
  unfold oAt at z
  split at z
  · rename_i q; cases z; exact .inl ⟨q, rfl⟩
  · rename_i q; exact .inr ⟨q, z⟩
theorem oNo_ne {O : Nat → Option Addr} {i j : Nat} (h : j ≠ i) : oNo O i j = O j := by unfold oNo; rw [if_neg h]
theorem oAt_ne {O : Nat → Option Addr} {i j : Nat} {a : Addr} (h : j ≠ i) : oAt O i a j = O j := by unfold oAt; rw [if_neg h]
theorem oAt_eq {O : Nat → Option Addr} {i : Nat} {a : Addr} : oAt O i a i = some a := by unfold oAt; rw [if_pos rfl]
theorem R.setVal {i : Nat} {v : Val} {w : V} (r : R K g1 st1 σ H1) (hi : i < st1.sl.length) (q : VR K g1 H1 v w) :
    R K { g1 with O := oNo g1.O i } { st1 with sl := st1.sl.set i (.val v) } (σ.set i (some w)) H1 := by
  refine { toRH := r.toRH.O _, len := by show (st1.sl.set i _).length = (σ.set i _).length; rw [List.length_set, List.length_set]; exact r.len, vl := fun j u z => ?_, ow := fun j vs z => ?_, oi := fun j b z => ?_, oinj := fun j k b z y => r.oinj j k b (oNo_dn z).2 (oNo_dn y).2 }
  · have z : (st1.sl.set i (.val v))[j]? = some (Sl.val u) := z
    by_cases hj : i = j
    · subst hj; rw [List.getElem?_set_self hi] at z; cases z
      exact ⟨w, List.getElem?_set_self (by rw [← r.len]; exact hi), q.O _⟩
    · rw [List.getElem?_set_ne hj] at z
      obtain ⟨x, h1, h2⟩ := r.vl j u z
      exact ⟨x, by rw [List.getElem?_set_ne hj]; exact h1, h2.O _⟩
  · have z : (st1.sl.set i (.val v))[j]? = some (Sl.own vs) := z
    by_cases hj : i = j
    · subst hj; rw [List.getElem?_set_self hi] at z; cases z
    · rw [List.getElem?_set_ne hj] at z
      obtain ⟨a, ws, h1, h2, h3, h4⟩ := r.ow j vs z
      exact ⟨a, ws, (oNo_ne fun q => hj q.symm).trans h1, by rw [List.getElem?_set_ne hj]; exact h2, h3, h4.O _⟩
  · obtain ⟨z1, z2⟩ := oNo_dn z
    obtain ⟨⟨vs, k0⟩, k1, k2⟩ := r.oi j b z2
    exact ⟨⟨vs, by show (st1.sl.set i _)[j]? = _; rw [List.getElem?_set_ne (fun q => z1 q.symm)]; exact k0⟩, k1, k2⟩
theorem R.setOwn {i : Nat} {vs : List Val} {a : Addr} {ws : List V} (r : R K g1 st1 σ H1) (hi : i < st1.sl.length) (ha : H1 a = some (.lst ws)) (q : VRs K g1 H1 vs ws) (hs : ¬ g1.S a) (hr : ∀ n, g1.rho n ≠ some a) (hO : ∀ j, j ≠ i → g1.O j ≠ some a) :
    R K { g1 with O := oAt g1.O i a } { st1 with sl := st1.sl.set i (.own vs) } (σ.set i (some (.ref a))) H1 := by
  have hi2 : i < σ.length := by rw [← r.len]; exact hi
  refine { toRH := r.toRH.O _, len := by show (st1.sl.set i _).length = (σ.set i _).length; rw [List.length_set, List.length_set]; exact r.len, vl := fun j u z => ?_, ow := fun j us z => ?_, oi := fun j b z => ?_, oinj := fun j k b z y => ?_ }
  · have z : (st1.sl.set i (.own vs))[j]? = some (Sl.val u) := z
    by_cases hj : i = j
    · subst hj; rw [List.getElem?_set_self hi] at z; cases z
    · rw [List.getElem?_set_ne hj] at z
      obtain ⟨x, h1, h2⟩ := r.vl j u z
      exact ⟨x, by rw [List.getElem?_set_ne hj]; exact h1, h2.O _⟩
  · have z : (st1.sl.set i (.own vs))[j]? = some (Sl.own us) := z
    by_cases hj : i = j
    · subst hj; rw [List.getElem?_set_self hi] at z; cases z
      exact ⟨a, ws, oAt_eq, List.getElem?_set_self hi2, ha, q.O _⟩
    · rw [List.getElem?_set_ne hj] at z
      obtain ⟨b, xs, h1, h2, h3, h4⟩ := r.ow j us z
      exact ⟨b, xs, (oAt_ne fun q => hj q.symm).trans h1, by rw [List.getElem?_set_ne hj]; exact h2, h3, h4.O _⟩
  · rcases oAt_dn z with ⟨z1, z2⟩ | ⟨z1, z2⟩
    · rw [z1, z2]
      exact ⟨⟨vs, List.getElem?_set_self hi⟩, hs, hr⟩
    · obtain ⟨⟨us, k0⟩, k1, k2⟩ := r.oi j b z2
      exact ⟨⟨us, by show (st1.sl.set i _)[j]? = _; rw [List.getElem?_set_ne (fun q => z1 q.symm)]; exact k0⟩, k1, k2⟩
  · rcases oAt_dn z with ⟨z1, z2⟩ | ⟨z1, z2⟩
    · rcases oAt_dn y with ⟨y1, y2⟩ | ⟨y1, y2⟩
      · rw [z1, y1]
      · rw [z2] at y2; exact (hO k y1 y2).elim
    · rcases oAt_dn y with ⟨y1, y2⟩ | ⟨y1, y2⟩
      · rw [y2] at z2; exact (hO j z1 z2).elim
      · exact r.oinj j k b z2 y2
theorem Ext.oNo {i : Nat} (e : Ext g H g1 H1) : Ext g H { g1 with O := Sm.oNo g1.O i } H1 := e.O fun j b z => e.oN j b (oNo_dn z).2
theorem Ext.oAt {i : Nat} {a : Addr} (e : Ext g H g1 H1) (hw : H a = none ∨ ∃ i, g.O i = some a) : Ext g H { g1 with O := Sm.oAt g1.O i a } H1 := e.O fun j b z => by
  rcases oAt_dn z with ⟨_, z⟩ | ⟨_, z⟩
  · rw [z]; exact hw.elim .inr .inl
  · exact e.oN j b z
theorem gn_ok {F : Nat → Bool} {i : Nat} {t : T} {w : V} {Q : L2.St → Hp → Prop} (hF : F i = true) (e : Ext g H g1 H1) (r : R K g1 st1 σ H1) (q : TR K g H g1 H1 σ t w) (h : GPst K mg W F g H σ (mGN i t st1) Q) : Q (σ.set i (some w)) H1 := by
  have val : ∀ {g2 : G} {s2 : MS} {v : Val}, Ext g H g2 H1 → R K g2 s2 σ H1 → VR K g2 H1 v w → GPst K mg W F g H σ (setV i v s2) Q → Q (σ.set i (some w)) H1 := fun {g2 s2 v} e2 r2 q2 h2 => by
    unfold setV at h2
    split at h2
    · rename_i hi
      exact h2 _ _ H1 e2.oNo (r2.setVal hi q2) (.set hF)
    · exact h2.elim
  cases t with
  | val v => exact val e r q h
  | own vs =>
    have h : GPst K mg W F g H σ (if i < st1.sl.length then .ok () { st1 with sl := st1.sl.set i (.own vs) } else .bad) Q := h
    split at h
    · rename_i hi
      obtain ⟨a, ws, rfl, h2, h3, h4, h5, h6, h7⟩ := q
      exact h _ _ H1 (e.oAt h7) (r.setOwn hi h2 h3 h4 h5 fun j _ => h6 j) (.set hF)
    · exact h.elim
  | loc j =>
    have h : GPst K mg W F g H σ ((mTake (.loc j) st1).bind (setV i)) Q := h
    cases h1 : mTake (.loc j) st1 with
    | exc x s => exact (take_noexc h1).elim
    | bad => rw [h1] at h; exact h.elim
    | ok v s =>
      rw [h1] at h
      obtain ⟨g2, e2, r2, v2, _, _⟩ := take_ok e r q.tw h1
      exact val e2 r2 v2 h
end
section
variable {X : Cx} {W : WX} {F : Nat → Bool} {tg e o ix : Expr} {es : List Expr} {mt : T → M Unit} {mts : List Val → M Unit} {m mo mi : M T} {pos : Pos}
theorem g_name {i : Nat} {x : Str} (hN : X.N.Nodup) (hi : X.N[i]? = some x := by rfl) (hx : Loc X.env.scope x := by first | exact .inl rfl | exact .inr rfl) (hf : X.fn x = true ∨ X.env.scope.names.lookup x = some .local := by first | exact .inl rfl | exact .inr rfl) (hF : F i = true := by rfl) {pos : Pos} : SG X W F (.Name x pos) (mGN i) :=
  (pg_name hN hi hx hf).im fun w σ H1 Q ⟨g, H, g1, st1, t, e, r, q, p⟩ => gn_ok hF e r q p
def mGs0 : List Val → M Unit := fun vs st => match vs with
  | [] => .ok () st
  | _ => .bad
def mGs1 (mt : T → M Unit) (mts : List Val → M Unit) : List Val → M Unit := fun vs st => match vs with
  | v :: r => (mt (.val v) st).bind fun _ st1 => mts r st1
  | _ => .bad
theorem GPst.sh {K : PySem.W.Frag} {mg : Str → Option Value} {g g1 : G} {H H1 : Hp} {σ σ' : L2.St} {r : Out Unit} {Q : L2.St → Hp → Prop} (e : Ext g H g1 H1) (a : Agr F σ σ') (h : GPst K mg W F g H σ r Q) : GPst K mg W F g1 H1 σ' r Q := by
  cases r with
  | ok t st' => exact fun g' w H' e' r' a' => h g' w H' (e.trans e') r' (a.trans a')
  | exc x st' => exact fun g' c d s H' e' r' t' => h g' c d s H' (e.trans e') r' t'
  | bad => exact h
theorem gs_0 : SGs X W F [] mGs0 := pgs_nil.im fun ws σ H1 Q ⟨g, H, g1, st1, vs, e, r, q, p⟩ => by
  cases vs with
  | nil => unfold VRs at q; exact ⟨q, p g1 σ H1 e r .refl⟩
  | cons _ _ => exact p.elim
theorem gs_1 (h1 : SG X W F e mt) (h2 : SGs X W F es mts) (hs : ((assignEach (e :: es) X.env).map fun x => x.2) = assign e X.env :: (assignEach es X.env).map fun x => x.2 := by rfl) : SGs X W F (e :: es) (mGs1 mt mts) := (pgs_cons h1 h2 hs).im fun ws σ H1 Q ⟨g, H, g1, st1, vs, ee, r, q, p⟩ => by
  cases vs with
  | nil => exact p.elim
  | cons v vr =>
    unfold VRs at q
    obtain ⟨w, wr, e1, q1, q2⟩ := q
    refine ⟨w, wr, e1, g1, H1, g1, st1, .val v, Ext.refl, r, q1, ?_⟩
    have p : GPst X.K X.mg W F g1 H1 σ ((mt (.val v) st1).bind fun _ st1 => mts vr st1) Q := GPst.sh ee .refl p
    cases h : mt (.val v) st1 with
    | bad => rw [h] at p; exact p.elim
    | exc x s => rw [h] at p; exact p
    | ok u s =>
      rw [h] at p
      exact fun g' σ' H' e' r' a' => ⟨g', H', g', s, vr, Ext.refl, r', VRs.ext r.wf e' _ _ q2, GPst.sh e' a' p⟩
def mGT (n : Nat) (mts : List Val → M Unit) (t : T) : M Unit := fun st => match view t st with
  | some (.tup vs) => if vs.length = n then mts vs st else .bad
  | _ => .bad
theorem g_tup {k n : Nat} (hc : X.calm = true) (h : SGs X W F es mts) (hn : (assignEach es X.env).length = n := by rfl) (hx : (assignEach es X.env).findIdx? (fun x => x.1) = none := by rfl) : SG X W F (.Tuple es k pos) (mGT n mts) :=
  (pg_tup hc h hn hx).im fun w σ H1 Q ⟨g, H, g1, st1, t, e, r, q, p⟩ => by
    unfold mGT at p
    split at p
    · rename_i vs ev
      split at p
      · rename_i hl
        have z := view_ok r q ev
        unfold Vw VR at z
        obtain ⟨a, ws, z1, z2, z3⟩ := z
        exact ⟨a, ws, z1, SqT.of z2, by rw [← z3.length]; exact hl, g, H, g1, st1, vs, e, r, z3, p⟩
      · exact p.elim
    · exact p.elim
/-! ### a place of a list -/
def ixV (n : Nat) (i : Int) : Option Nat := ixN n i
def putL (o : T) (i : Int) (v : Val) : M Unit := fun st => match o with
  | .loc s => match st.sl[s]? with
    | some (.own vs) => match ixN vs.length i with
      | some j => .ok () { st with sl := st.sl.set s (.own (vs.set j v)) }
      | none => .bad
    | _ => .bad
  | .val (.ref n) => match st.hp[n]? with
    | some (.lst vs) => match ixN vs.length i with
      | some j => .ok () { st with hp := st.hp.set n (.lst (vs.set j v)) }
      | none => .bad
    | _ => .bad
  | _ => .bad
def mGSub (mo mi : M T) (t : T) : M Unit := fun st => (mTake t st).bind fun v st1 => (mo st1).bind fun o st2 => (mi st2).bind fun i st3 => (asI (view i st3) st3).bind fun k => putL o k v
theorem GPst.bind {α γ : Type} {RelA : RelT α γ} {K : PySem.W.Frag} {mg : Str → Option Value} {g g1 : G} {H H1 : Hp} {σ : L2.St} {r : Out α} {k : α → M Unit} {Q : L2.St → Hp → Prop} {Q1 : γ → Hp → Prop} (e : Ext g H g1 H1) (h : GPst K mg W F g H σ (r.bind k) Q)
    (hq : ∀ g2 w H2 t st2, Ext g H g2 H2 → Ext g1 H1 g2 H2 → R K g2 st2 σ H2 → RelA g1 H1 g2 H2 σ t w → GPst K mg W F g H σ (k t st2) Q → Q1 w H2) : Pst K mg W RelA g1 H1 σ r Q1 := by
  cases r with
  | ok t st' => exact fun g' w H' e' r' t' => hq g' w H' t st' (e.trans e') e' r' t' h
  | exc x st' => exact fun g' c d H' e' r' t' => h g' c d σ H' (e.trans e') r' t'
  | bad => exact h
/-- an own list is changed -/
theorem R.putOwn {K : PySem.W.Frag} {g1 : G} {st1 : MS} {σ : L2.St} {H1 : Hp} {s : Nat} {vs us : List Val} {a : Addr} {xs : List V} (r : R K g1 st1 σ H1) (hs : st1.sl[s]? = some (.own vs)) (hO : g1.O s = some a) (q : VRs K g1 H1 us xs) :
    Ext g1 H1 g1 (upd H1 a (.lst xs)) ∧ R K g1 { st1 with sl := st1.sl.set s (.own us) } σ (upd H1 a (.lst xs)) := by
  obtain ⟨_, nS, nr⟩ := r.oi s a hO
  have ex : Ext g1 H1 g1 (upd H1 a (.lst xs)) := ⟨fun _ _ h => h, fun _ h => h, fun b o h _ _ ho => by rw [upd_ne (fun z => ho s (by rw [z]; exact hO))]; exact h, fun b z => by
    by_cases hb : b = a
    · rw [hb, upd_same] at z; cases z
    · rw [upd_ne hb] at z; exact z, fun _ _ h => .inl h, fun _ h => .inl h, fun i _ h => .inl ⟨i, h⟩⟩
  have wf := r.wf
  have hi := lt_of_get hs
  obtain ⟨a', ws', q1, _, q2, _⟩ := r.ow s vs hs
  rw [hO] at q1; cases q1
  refine ⟨ex, { tb := tabs_upd r.tb (by rw [q2]; exact True.intro) (fun q z => by rw [q2] at z; cases z), dom := r.dom, ob := fun n o h => ?_, inj := r.inj, sr := r.sr, sa := fun b h z => r.sa b h (ex.nn b z), len := by show (st1.sl.set s _).length = _; rw [List.length_set]; exact r.len, vl := fun i v h => ?_, ow := fun i ws h => ?_, oi := fun i b h => ?_, oinj := r.oinj }⟩
  · obtain ⟨b, h1, h2⟩ := r.ob n o h
    have hb : b ≠ a := fun z => nr n (by rw [← z]; exact h1)
    exact ⟨b, h1, h2.imp (VR.ext wf ex) (upd_ne hb)⟩
  · have h : (st1.sl.set s (.own us))[i]? = some (Sl.val v) := h
    by_cases hj : s = i
    · subst hj; rw [List.getElem?_set_self hi] at h; cases h
    · rw [List.getElem?_set_ne hj] at h
      obtain ⟨w, h1, h2⟩ := r.vl i v h
      exact ⟨w, h1, VR.ext wf ex _ _ h2⟩
  · have h : (st1.sl.set s (.own us))[i]? = some (Sl.own ws) := h
    by_cases hj : s = i
    · subst hj; rw [List.getElem?_set_self hi] at h; cases h
      obtain ⟨b, zs, k1, k2, k3, k4⟩ := r.ow s vs hs
      rw [hO] at k1; cases k1
      exact ⟨a, xs, hO, k2, upd_same, VRs.ext wf ex _ _ q⟩
    · rw [List.getElem?_set_ne hj] at h
      obtain ⟨b, zs, k1, k2, k3, k4⟩ := r.ow i ws h
      have hb : b ≠ a := fun z => hj (r.oinj s i a hO (by rw [← z]; exact k1))
      exact ⟨b, zs, k1, k2, (upd_ne hb).trans k3, VRs.ext wf ex _ _ k4⟩
  · obtain ⟨⟨ws, k0⟩, k1, k2⟩ := r.oi i b h
    refine ⟨?_, k1, k2⟩
    by_cases hj : s = i
    · subst hj; exact ⟨us, List.getElem?_set_self hi⟩
    · exact ⟨ws, by show (st1.sl.set s _)[i]? = _; rw [List.getElem?_set_ne hj]; exact k0⟩
/-- a place of the heap is changed -/
theorem R.putHp {K : PySem.W.Frag} {g1 : G} {st1 : MS} {σ : L2.St} {H1 : Hp} {n : Nat} {o' : Ob} {a : Addr} {u : HO} (r : R K g1 st1 σ H1) (hn : g1.rho n = some a) (ho : ∀ g' H', Ext g1 H1 g' H' → H' a = some u → OR K g' H' o' a) :
    Ext g1 H1 g1 (upd H1 a u) ∧ R K g1 { st1 with hp := st1.hp.set n o' } σ (upd H1 a u) := by
  have ex : Ext g1 H1 g1 (upd H1 a u) := ⟨fun _ _ h => h, fun _ h => h, fun b o h _ hr _ => by rw [upd_ne (fun z => hr n (by rw [z]; exact hn))]; exact h, fun b z => by
    by_cases hb : b = a
    · rw [hb, upd_same] at z; cases z
    · rw [upd_ne hb] at z; exact z, fun _ _ h => .inl h, fun _ h => .inl h, fun i _ h => .inl ⟨i, h⟩⟩
  have wf := r.wf
  have hl := r.dom n a hn
  obtain ⟨a', q1, q2⟩ := r.ob n _ (List.getElem?_eq_getElem hl)
  rw [hn] at q1; cases q1
  refine ⟨ex, { tb := tabs_upd r.tb q2.mut q2.noCode, dom := fun m b h => by show m < (st1.hp.set n o').length; rw [List.length_set]; exact r.dom m b h, ob := fun m o h => ?_, inj := r.inj, sr := r.sr, sa := fun b h z => r.sa b h (ex.nn b z), len := r.len, vl := fun i v h => ?_, ow := fun i ws h => ?_, oi := r.oi, oinj := r.oinj }⟩
  · have h : (st1.hp.set n o')[m]? = some o := h
    by_cases hm : n = m
    · subst hm
      rw [List.getElem?_set_self hl] at h
      cases h
      exact ⟨a, hn, ho _ _ ex upd_same⟩
    · rw [List.getElem?_set_ne hm] at h
      obtain ⟨b, h1, h2⟩ := r.ob m o h
      have hb : b ≠ a := fun z => hm (r.inj n m a hn (by rw [← z]; exact h1))
      exact ⟨b, h1, h2.imp (VR.ext wf ex) (upd_ne hb)⟩
  · obtain ⟨w, h1, h2⟩ := r.vl i v h
    exact ⟨w, h1, VR.ext wf ex _ _ h2⟩
  · obtain ⟨b, zs, k1, k2, k3, k4⟩ := r.ow i ws h
    have hb : b ≠ a := fun z => (r.oi i b k1).2.2 n (by rw [z]; exact hn)
    exact ⟨b, zs, k1, k2, (upd_ne hb).trans k3, VRs.ext wf ex _ _ k4⟩
theorem putL_ok {K : PySem.W.Frag} {mg : Str → Option Value} {g g1 : G} {st1 : MS} {σ : L2.St} {H H1 : Hp} {g9 : G} {H9 : Hp} {F : Nat → Bool} {o : T} {wo w : V} {k : Int} {v : Val} {Q : L2.St → Hp → Prop} (e : Ext g H g1 H1) (r : R K g1 st1 σ H1) (qo : TR K g9 H9 g1 H1 σ o wo) (qv : VR K g1 H1 v w)
    (h : GPst K mg W F g H σ (putL o k v st1) Q) : rSetL wo (.int k) w H1 fun H3 => Q σ H3 := by
  cases o with
  | own _ => exact h.elim
  | loc s =>
    have qo : σ[s]? = some (some wo) := qo
    unfold putL at h
    dsimp only at h
    split at h
    · rename_i vs ev
      split at h
      · rename_i j ej
        obtain ⟨a, ws, h1, h2, h3, h4⟩ := r.ow s vs ev
        rw [qo] at h2; cases h2
        refine ⟨a, ws, k, j, rfl, rfl, h3, by rw [← h4.length]; exact ej, ?_⟩
        obtain ⟨ex, r2⟩ := r.putOwn ev h1 (VRs.set qv j h4)
        exact h g1 σ _ (e.trans ex) r2 .refl
      · exact h.elim
    · exact h.elim
  | val u =>
    cases u with
    | ref n =>
      unfold putL at h
      dsimp only at h
      split at h
      · rename_i vs ev
        split at h
        · rename_i j ej
          obtain ⟨a, h1, h2⟩ := r.ob n _ ev
          obtain ⟨ws, h3, h4⟩ := h2
          have qo : VR K g1 H1 (.ref n) wo := qo
          unfold VR at qo
          obtain ⟨a', k1, rfl⟩ := qo
          rw [h1] at k1; cases k1
          refine ⟨a, ws, k, j, rfl, rfl, h3, by rw [← h4.length]; exact ej, ?_⟩
          obtain ⟨ex, r2⟩ := r.putHp (o' := .lst (vs.set j v)) (u := .lst (ws.set j w)) h1 fun g' H' ex hu => ⟨_, hu, VRs.ext r.wf ex _ _ (VRs.set qv j h4)⟩
          exact h g1 σ _ (e.trans ex) r2 .refl
        · exact h.elim
      · exact h.elim
    | _ => exact h.elim
theorem g_sub (ho : SE X W o mo) (hi : SE X W ix mi) (hx : ∀ v, assign (.Subscript o ix pos) X.env v = (do
      let ov ← holding [v] (eval o X.env)
      let iv ← holding [v, ov] (eval ix X.env)
      standAt pos
      holding [v, ov, iv] (setItem ov iv v)
      release [v, ov, iv] []) := by intro _; rfl) : SG X W F (.Subscript o ix pos) (mGSub mo mi) :=
  (pg_sub ho hi set_list hx).im fun w σ H1 Q ⟨g, H, g1, st1, t, e, r, q, p⟩ => by
    have p : GPst X.K X.mg W F g H σ ((mTake t st1).bind fun v st1 => (mo st1).bind fun o st2 => (mi st2).bind fun i st3 => (asI (view i st3) st3).bind fun k => putL o k v) Q := p
    cases h1 : mTake t st1 with
    | exc x s => exact (take_noexc h1).elim
    | bad => rw [h1] at p; exact p.elim
    | ok v s =>
      rw [h1] at p
      obtain ⟨g2, e2, r2, v2, _, _⟩ := take_ok e r q.tw h1
      refine ⟨g2, s, r2, GPst.bind e2 p fun g3 wo H3 to st3 e3 e3' r3 q3 p3 => ⟨g3, st3, r3, GPst.bind e3 p3 fun g4 wi H4 ti st4 e4 e4' r4 q4 p4 => ?_⟩⟩
      unfold asI at p4
      split at p4
      · rename_i st5 k ev
        have z := view_ok r4 q4 ev
        unfold Vw VR at z
        subst z
        exact putL_ok e4 r4 (TR.rel.ext r3.wf e4' q3) (VR.ext r3.wf e4' _ _ (VR.ext r2.wf e3' _ _ v2)) p4
      · exact p4.elim
end
end Sm

namespace Sm
open PySem L2
/-! ### assignments -/
def okU (o : Out Unit) : Out Fl := match o with
  | .ok _ st => .ok .nx st
  | .exc e st => .exc e st
  | .bad => .bad
def mAsg (m : M T) (mt : T → M Unit) : M Fl := fun st => (m st).bind fun t st1 => okU (mt t st1)
section
variable {X : Cx} {W : WX} {tg e o ix : Expr} {es : List Expr} {mt : T → M Unit} {m ma mb : M T} {pos : Pos}
theorem SPst.gp {K : PySem.W.Frag} {mg : Str → Option Value} {F : Nat → Bool} {g : G} {H : Hp} {σ : L2.St} {D : Ends} {r : Out Unit} (h : SPst K mg W g H (okU r) D) : GPst K mg W F g H σ r D.nx := by
  cases r with
  | ok u s => exact fun g' σ' H' e' r' _ => h g' σ' H' e' r'
  | exc x s => exact h
  | bad => exact h
theorem k_asg (he : SE X W e m) (hg : SG X W fAll tg mt) (hs : swapsWithSole [tg] e pos.line X.env = pure false := by rfl) (hw : swappedStores [tg] e X.env = pure none := by rfl)
    (hh : (assignEach [tg] X.env).map (fun x => x.2) = [assign tg X.env] := by rfl) : SS X W (.Assign [tg] e pos) (mAsg m mt) := (ps_asg he hg hs hw hh).im fun D σ H ⟨g, st, r, p⟩ =>
  ⟨g, st, r, SPst.bind Ext.refl p fun g2 w H2 t st2 e2 _ r2 q2 p2 => ⟨g, H, g2, st2, t, e2, r2, q2, p2.gp⟩⟩
def mPar (i j : Nat) (ma mb : M T) : M Fl := fun st => (ma st).bind fun t1 st1 => (mb st1).bind fun t2 st2 => match t1, t2 with
  | .loc _, _ => .bad
  | _, .loc _ => .bad
  | t1, t2 => okU ((mGN i t1 st2).bind fun _ st3 => mGN j t2 st3)
theorem gn_inv {K : PySem.W.Frag} {mg : Str → Option Value} {g g1 : G} {H H1 : Hp} {st1 st2 : MS} {σ : L2.St} {i : Nat} {t : T} {w : V} {u : Unit} (e : Ext g H g1 H1) (r : R K g1 st1 σ H1) (q : TR K g H g1 H1 σ t w) (hl : ∀ j, t ≠ .loc j) (h : mGN i t st1 = .ok u st2) :
    ∃ O, Ext g H { g1 with O := O } H1 ∧ R K { g1 with O := O } st2 (σ.set i (some w)) H1 ∧ ∀ k a, O k = some a → g1.O k = some a ∨ ((∃ vs, t = .own vs) ∧ w = .ref a) := by
  cases t with
  | loc j => exact (hl j rfl).elim
  | val v =>
    simp only [mGN, setV] at h
    split at h
    · rename_i hi
      cases h
      exact ⟨_, e.oNo, r.setVal hi q, fun k a z => .inl (oNo_dn z).2⟩
    · cases h
  | own vs =>
    simp only [mGN] at h
    split at h
    · rename_i hi
      cases h
      obtain ⟨a, ws, rfl, h2, h3, h4, h5, h6, h7⟩ := q
      exact ⟨_, e.oAt h7, r.setOwn hi h2 h3 h4 h5 fun j _ => h6 j, fun k b z => (oAt_dn z).elim (fun z => .inr ⟨⟨vs, rfl⟩, by rw [z.2]⟩) fun z => .inl z.2⟩
    · cases h
theorem gn_noexc {i : Nat} {t : T} {x : Exc} {st1 st2 : MS} (hl : ∀ j, t ≠ .loc j) : mGN i t st1 ≠ .exc x st2 := fun h => by
  cases t with
  | loc j => exact (hl j rfl).elim
  | val v => simp only [mGN, setV] at h; split at h <;> cases h
  | own vs => simp only [mGN] at h; split at h <;> cases h
/-- x, y = a, b -/
theorem k_par {i j : Nat} {x y : Str} {a b : Expr} {px py pt : Pos} {kt k2 pt2} (hc : X.calm = true) (hN : X.N.Nodup) (ha : SE X W a ma) (hb : SE X W b mb) (hi : X.N[i]? = some x := by rfl) (hj : X.N[j]? = some y := by rfl) (hij : i ≠ j := by decide)
    (hx : X.env.scope.names.lookup x = some .local := by rfl) (hy : X.env.scope.names.lookup y = some .local := by rfl)
    (hw : swappedStores [.Tuple [.Name x px, .Name y py] kt pt] (.Tuple [a, b] k2 pt2) X.env = pure (some [x, y]) := by rfl) (hs : swapsWithSole [.Tuple [.Name x px, .Name y py] kt pt] (.Tuple [a, b] k2 pt2) pos.line X.env = pure false := by rfl)
    (hst : starEach [a, b] X.env = (false, eval a X.env) :: starEach [b] X.env := by rfl) (hst2 : starEach [b] X.env = (false, eval b X.env) :: starEach [] X.env := by rfl) :
    SS X W (.Assign [.Tuple [.Name x px, .Name y py] kt pt] (.Tuple [a, b] k2 pt2) pos) (mPar i j ma mb) :=
  (ps_par hc hN hi hj hij hx hy (pa_cons ha (pa_cons hb pa_nil hst2) hst) hw hs).im fun D σ H ⟨g, st, r, p⟩ =>
    ⟨g, st, r, SPst.bind Ext.refl p fun g2 w H2 t st2 e2 _ r2 q2 p2 => ⟨g2, st2, r2, SPst.bind e2 p2 fun g3 w3 H3 t3 st3 e3 e3' r3 q3 p3 => by
      have key : (∀ j, t ≠ .loc j) → (∀ j, t3 ≠ .loc j) → SPst X.K X.mg W g H (okU ((mGN i t st3).bind fun _ st4 => mGN j t3 st4)) D → ∃ v w' : V, [w, w3] = [v, w'] ∧ D.nx ((σ.set i (some v)).set j (some w')) H3 := fun n1 n2 p4 => by
        refine ⟨w, w3, rfl, ?_⟩
        have q2' := TR.rel.ext r2.wf e3' q2
        cases h : mGN i t st3 with
        | bad => rw [h] at p4; exact p4.elim
        | exc x s => exact (gn_noexc n1 h).elim
        | ok u s =>
          rw [h] at p4
          obtain ⟨O, e5, r5, hO⟩ := gn_inv (mg := X.mg) e3 r3 q2' n1 h
          have p5 : GPst X.K X.mg W fAll g H (σ.set i (some w)) (mGN j t3 s) D.nx := SPst.gp p4
          refine gn_ok rfl e5 r5 ?_ p5
          cases t3 with
          | loc k => exact (n2 k rfl).elim
          | val v => exact VR.O O (show VR X.K g3 H3 v w3 from q3)
          | own vs =>
            obtain ⟨a3, ws, f1, f2, f3, f4, f5, f6, f7⟩ := q3
            refine ⟨a3, ws, f1, f2, f3.O O, f4, f5, fun k z => ?_, ?_⟩
            · rcases hO k a3 z with z | ⟨⟨us, hu⟩, z⟩
              · exact f6 k z
              · subst hu
                obtain ⟨a1, ws1, k1, k2, k3, k4, k5, k6, k7⟩ := q2
                rw [k1] at z
                cases z
                rcases f7 with f7 | ⟨k, f7⟩
                · rw [k2] at f7; cases f7
                · exact k6 k f7
            · rcases f7 with f7 | ⟨k, f7⟩
              · exact .inl (e2.nn a3 f7)
              · exact (e2.oN k a3 f7).elim .inr .inl
      cases t with
      | loc k => exact p3.elim
      | val v => cases t3 with
        | loc k => exact p3.elim
        | val v3 => exact key (fun _ z => by cases z) (fun _ z => by cases z) p3
        | own v3 => exact key (fun _ z => by cases z) (fun _ z => by cases z) p3
      | own v => cases t3 with
        | loc k => exact p3.elim
        | val v3 => exact key (fun _ z => by cases z) (fun _ z => by cases z) p3
        | own v3 => exact key (fun _ z => by cases z) (fun _ z => by cases z) p3⟩⟩
/-! augmented -/
def P3 (K : PySem.W.Frag) (rel : TIp) (f : Val → Val → Option T) : Prop := P2 K rel f
def mAug (i : Nat) (f : Val → Val → Option T) (m : M T) : M Fl := fun st => (mV i st).bind fun t0 st0 => (m st0).bind fun t st1 => (vop2 f t0 t st1).bind fun t2 st2 => okU (mGN i t2 st2)
theorem mV_ok {K : PySem.W.Frag} {g1 g0 : G} {st1 : MS} {σ : L2.St} {H0 H1 : Hp} {i : Nat} (r : R K g1 st1 σ H1) : (∃ t w, mV i st1 = .ok t st1 ∧ σ[i]? = some (some w) ∧ ∀ g0 H0, TR K g0 H0 g1 H1 σ t w) ∨ mV i st1 = .bad := by
  unfold mV
  cases q : st1.sl[i]? with
  | none => exact .inr rfl
  | some s =>
    cases s with
    | no => exact .inr rfl
    | val v =>
      obtain ⟨w, h1, h2⟩ := r.vl i v q
      exact .inl ⟨.val v, w, rfl, h1, fun _ _ => h2⟩
    | own vs =>
      obtain ⟨a, ws, h1, h2, h3, h4⟩ := r.ow i vs q
      exact .inl ⟨.loc i, _, rfl, h2, fun _ _ => h2⟩
theorem k_aug {i : Nat} {x : Str} {op : Operator} {rel : TIp} {f : Val → Val → Option T} {pos' : Pos} (hN : X.N.Nodup) (he : SE X W e m) (ho : PIp X op rel) (hp : P2 X.K rel f) (hi : X.N[i]? = some x := by rfl) (hx : Loc X.env.scope x := by first | exact .inl rfl | exact .inr rfl) (hf : X.fn x = true ∨ X.env.scope.names.lookup x = some .local := by first | exact .inl rfl | exact .inr rfl) :
    SS X W (.AugAssign (.Name x pos') op e pos) (mAug i f m) := (ps_aug hN hi hx he ho hf).im fun D σ H ⟨g, st, r, p⟩ => by
  rcases mV_ok (g0 := g) (H0 := H) (i := i) r with ⟨t0, w0, h0, h1, h2⟩ | h0
  · refine ⟨w0, h1, g, st, r, ?_⟩
    unfold mAug at p
    rw [h0] at p
    refine SPst.bind (RelA := TR X.K) Ext.refl p fun g2 w H2 t st2 e2 e2' r2 q2 p2 => ?_
    have q0 := TR.rel.ext r.wf e2 (h2 g H)
    exact vop2_ok hp Ext.refl r2 q0 q2 (SPst.bind e2 p2 fun g3 w3 H3 t3 st3 e3 e3' r3 q3 p3 => gn_ok (F := fAll) rfl e3 r3 (TR.rel.sh e2 q3) p3.gp)
  · unfold mAug at p
    rw [h0] at p
    exact p.elim
end
/-! ### methods that change a list -/
/-- what a list's change gives: the new list, a value -/
def chL (o : T) (f : List Val → Option (List Val × Val)) : M T := fun st => match o with
  | .loc s => match st.sl[s]? with
    | some (.own vs) => match f vs with
      | some (us, v) => .ok (.val v) { st with sl := st.sl.set s (.own us) }
      | none => .bad
    | _ => .bad
  | .val (.ref n) => match st.hp[n]? with
    | some (.lst vs) => match f vs with
      | some (us, v) => .ok (.val v) { st with hp := st.hp.set n (.lst us) }
      | none => .bad
    | _ => .bad
  | _ => .bad
/-- a rule of HandS that changes the list at l -/
def PCh (K : PySem.W.Frag) (rel : V → List V → Hp → VK → Prop) (f : List Val → List Val → Option (List Val × Val)) : Prop := ∀ (g : G) (H : Hp) l xs vs ws us v l' (Q : VK), H l = some (.lst xs) → VRs K g H vs xs → VRs K g H us ws → f vs us = some (l', v) →
  (∀ xs' w, VRs K g H l' xs' → VR K g H v w → Q w (upd H l (.lst xs'))) → rel (.ref l) ws H Q
/-- is it a list that may be changed -/
def isL (o : T) (st : MS) : Bool := match o with
  | .loc s => match st.sl[s]? with
    | some (.own _) => true
    | _ => false
  | .val (.ref n) => match st.hp[n]? with
    | some (.lst _) => true
    | _ => false
  | _ => false
def mCh (f : List Val → List Val → Option (List Val × Val)) (mo : M T) (ms : M (List T)) : M T := fun st => (mo st).bind fun o st1 => if isL o st1 = true then (ms st1).bind fun ts st2 => (mTakes ts st2).bind fun vs => chL o (fun l => f l vs) else .bad
section
variable {K : PySem.W.Frag} {mg : Str → Option Value} {g g0 g1 g2 : G} {H H0 H1 H2 : Hp} {st st1 st2 : MS} {σ : L2.St} {W : WX}
theorem isL_ok {o : T} {wo : V} (r : R K g1 st1 σ H1) (qo : TR K g0 H0 g1 H1 σ o wo) (h : isL o st1 = true) : tyV K "list" wo H1 := by
  cases o with
  | own _ => cases h
  | loc s =>
    have qo : σ[s]? = some (some wo) := qo
    simp only [isL] at h
    split at h
    · rename_i vs ev
      obtain ⟨a, xs, h1, h2, h3, h4⟩ := r.ow s vs ev
      rw [qo] at h2; cases h2
      exact .inl ⟨rfl, xs, SqL.of h3⟩
    · cases h
  | val u =>
    cases u with
    | ref n =>
      simp only [isL] at h
      split at h
      · rename_i vs ev
        obtain ⟨a, h1, xs, h3, h4⟩ := r.ob n _ ev
        have qo : VR K g1 H1 (.ref n) wo := qo
        unfold VR at qo
        obtain ⟨a', k1, rfl⟩ := qo
        rw [h1] at k1; cases k1
        exact .inl ⟨rfl, xs, SqL.of h3⟩
      · cases h
    | _ => cases h
theorem chL_ok {rel : V → List V → Hp → VK → Prop} {f : List Val → List Val → Option (List Val × Val)} (hp : PCh K rel f) {o : T} {wo : V} {us : List Val} {ws : List V} {Q : VK} {g9 : G} {H9 : Hp} (e : Ext g H g1 H1) (r : R K g1 st1 σ H1) (qo : TR K g9 H9 g1 H1 σ o wo) (q : VRs K g1 H1 us ws)
    (h : Pst K mg W (TR K) g H σ (chL o (fun l => f l us) st1) Q) : rel wo ws H1 Q := by
  cases o with
  | own _ => exact h.elim
  | loc s =>
    have qo : σ[s]? = some (some wo) := qo
    unfold chL at h
    dsimp only at h
    split at h
    · rename_i vs ev
      split at h
      · rename_i l' v ef
        obtain ⟨a, xs, h1, h2, h3, h4⟩ := r.ow s vs ev
        rw [qo] at h2; cases h2
        refine hp g1 H1 a xs vs ws us v l' Q h3 h4 q ef fun xs' w k1 k2 => ?_
        obtain ⟨ex, r2⟩ := r.putOwn ev h1 k1
        exact h g1 w _ (e.trans ex) r2 (VR.ext r.wf ex _ _ k2)
      · exact h.elim
    · exact h.elim
  | val u =>
    cases u with
    | ref n =>
      unfold chL at h
      dsimp only at h
      split at h
      · rename_i vs ev
        split at h
        · rename_i l' v ef
          obtain ⟨a, h1, xs, h3, h4⟩ := r.ob n _ ev
          have qo : VR K g1 H1 (.ref n) wo := qo
          unfold VR at qo
          obtain ⟨a', k1, rfl⟩ := qo
          rw [h1] at k1; cases k1
          refine hp g1 H1 a xs vs ws us v l' Q h3 h4 q ef fun xs' w k1 k2 => ?_
          obtain ⟨ex, r2⟩ := r.putHp (o' := .lst l') (u := .lst xs') h1 fun g' H' ex hu => ⟨_, hu, VRs.ext r.wf ex _ _ k1⟩
          exact h g1 w _ (e.trans ex) r2 (VR.ext r.wf ex _ _ k2)
        · exact h.elim
      · exact h.elim
    | _ => exact h.elim
end
section
variable {X : Cx} {W : WX} {apos cpos : Pos} {e o : Expr} {es : List Expr} {mo : M T} {ms : M (List T)} {id : String} {name : Str} {rel : V → List V → Hp → VK → Prop} {f : List Val → List Val → Option (List Val × Val)}
theorem s_ch0 (pa : PlainAttrs "list") (slot : Slot "list" name id) (hty : typeOf (.builtin id) = pure (.type "method_descriptor")) (hm : MtR X id rel) (hp : PCh X.K rel f) (ho : SE X W o mo)
    (hbase : attributeBase o name X.env (eval o X.env) = eval o X.env := by rfl) (hline : (apos.endLine == cpos.line) = true := by rfl) : SE X W (.Call (.Attribute o name apos) [] [] cpos) (mCh f mo mA0) :=
  (pe_bm0 pa slot hty hm ho hbase hline).im fun σ H Q ⟨g, st, r, p⟩ => ⟨g, st, r, Pst.bind Ext.refl p fun g2 w H2 t st2 e2 _ r2 q2 p2 => by
    split at p2
    · rename_i ht
      exact ⟨isL_ok r2 q2 ht, chL_ok hp e2 r2 q2 VRs.nil p2⟩
    · exact p2.elim⟩
theorem s_ch (pa : PlainAttrs "list") (slot : Slot "list" name id) (hty : typeOf (.builtin id) = pure (.type "method_descriptor")) (hm : MtR X id rel) (hp : PCh X.K rel f) (ho : SE X W o mo) (ha : SA X W (e :: es) ms)
    (tx : BmTx X o name e es apos cpos := by exact ⟨⟨rfl, rfl⟩, ⟨rfl, rfl⟩, rfl⟩) :
    SE X W (.Call (.Attribute o name apos) (e :: es) [] cpos) (mCh f mo ms) :=
  (pe_bm pa slot hty hm ho ha tx.1.1 tx.2.2 tx.1.2 tx.2.1.1 tx.2.1.2).im fun σ H Q ⟨g, st, r, p⟩ => ⟨g, st, r, Pst.bind Ext.refl p fun g2 w H2 t st2 e2 _ r2 q2 p2 => by
    split at p2
    · rename_i ht
      exact ⟨isL_ok r2 q2 ht, g2, st2, r2, Pst.bind e2 p2 fun g3 ws H3 ts st3 e3 e3' r3 q3 p3 => by
        obtain ⟨g4, st4, vs, e4, r4, v4, p4, l4⟩ := Pst.takes e3 r3 (TRs.rel.sh e2 q3) p3
        have q2' := TR.rel.ext r2.wf e3' q2
        cases t with
        | own _ => cases ht
        | loc s => exact chL_ok hp (g9 := g2) (H9 := H2) e4 r4 (show TR X.K g2 H2 g4 H3 σ (.loc s) w from q2') v4 p4
        | val v => exact chL_ok hp (g9 := g2) (H9 := H2) e4 r4 (show TR X.K g2 H2 g4 H3 σ (.val v) w from VR.le l4 _ _ q2') v4 p4⟩
    · exact p2.elim⟩
end
end Sm

namespace Sm
open PySem L2
/-! ### what is walked -/
structure SrcOk (K : PySem.W.Frag) (g : G) (H : Hp) (J : It) (xs : List Val) : Prop where
  go : ∀ g' H', Ext g H g' H' → ∀ i, i < xs.length → J.go i H'
  stop : ∀ g' H', Ext g H g' H' → ∀ i, xs.length ≤ i → J.stop i H'
  yld : ∀ g' H', Ext g H g' H' → ∀ i x H'', i < xs.length → J.yld i H' x H'' → Add H' H'' ∧ ∃ v, xs[i]? = some v ∧ VR K g' H'' v x
def sI (K : PySem.W.Frag) (mg : Str → Option Value) (W : WX) (m : M (List Val)) : TI := fun σ H Rr => ∃ g st, R K g st σ H ∧ match m st with
  | .ok xs st' => ∀ g' H' J, Ext g H g' H' → R K g' st' σ H' → SrcOk K g' H' J xs → Rr J H'
  | .exc e st' => ∀ g' cls d H', Ext g H g' H' → R K g' st' σ H' → XR K mg g' H' e cls d → W cls d σ H'
  | .bad => False
structure SI (X : Cx) (W : WX) (tg iter : Expr) (m : M (List Val)) : Prop where
  ex : PI X tg iter (sI X.K X.mg W m)
theorem _root_.L2.PI.im {X : Cx} {tg e : Expr} {t t' : TI} (h : PI X tg e t) (hi : ∀ σ H Q, t' σ H Q → t σ H Q) : PI X tg e t' := ⟨fun pins s σ H Q I q => h.run pins s σ H Q I (hi _ _ _ q)⟩
section
variable {K : PySem.W.Frag} {mg : Str → Option Value} {g g0 g1 g2 : G} {H H0 H1 H2 : Hp} {st st1 st2 : MS} {σ : L2.St} {W : WX} {xs : List Val}
theorem VRs.lt {vs : List Val} {ws : List V} {i : Nat} (h : VRs K g H vs ws) (hi : i < vs.length) : ∃ v w, vs[i]? = some v ∧ ws[i]? = some w ∧ VR K g H v w := by
  obtain ⟨w, h1, h2⟩ := h.get (List.getElem?_eq_getElem hi)
  exact ⟨_, w, List.getElem?_eq_getElem hi, h1, h2⟩
theorem StT.ext {g' : G} {H' : Hp} {a : Addr} {ws : List V} (w : Wf g H) (e : Ext g H g' H') (h : H a = some (.tup ws) ∨ SqTK K a ws) : SqT K H' a ws := h.elim (fun h => SqT.of (tup_ext w e h)) .inr
theorem SrcOk.tup {a : Addr} {ws : List V} (w : Wf g H) (h : H a = some (.tup ws) ∨ SqTK K a ws) (q : VRs K g H xs ws) : SrcOk K g H (Itt K a) xs where
  go := fun g' H' e i hi => by
    obtain ⟨v, w', h1, h2, _⟩ := q.lt hi
    exact ⟨ws, w', StT.ext w e h, h2⟩
  stop := fun g' H' e i hi => ⟨ws, StT.ext w e h, by rw [← q.length]; exact hi⟩
  yld := fun g' H' e i x H'' hi y => by
    obtain ⟨rfl, y⟩ := y
    have y := y ws (StT.ext w e h)
    obtain ⟨v, h1, h2⟩ := (VRs.ext w e _ _ q).get' y
    exact ⟨Add.refl, v, h1, h2⟩
theorem SrcOk.lst {a : Addr} {ws : List V} (w : Wf g H) (h : Stab K g H a ws) (q : VRs K g H xs ws) : SrcOk K g H (Itl K a) xs where
  go := fun g' H' e i hi => by
    obtain ⟨v, w', h1, h2, _⟩ := q.lt hi
    exact ⟨ws, w', (h.ext w e).sq, h2⟩
  stop := fun g' H' e i hi => ⟨ws, (h.ext w e).sq, by rw [← q.length]; exact hi⟩
  yld := fun g' H' e i x H'' hi y => by
    obtain ⟨rfl, y⟩ := y
    have y := y ws ((h.ext w e).sq)
    obtain ⟨v, h1, h2⟩ := (VRs.ext w e _ _ q).get' y
    exact ⟨Add.refl, v, h1, h2⟩
def intR (lo : Int) (n : Nat) : List Val := (List.range n).map fun i => .int (lo + (i : Nat))
theorem intR_get {lo : Int} {n i : Nat} (h : i < n) : (intR lo n)[i]? = some (.int (lo + (i : Nat))) := by
  unfold intR
  rw [List.getElem?_map, List.getElem?_range h]
  rfl
theorem intR_len {lo : Int} {n : Nat} : (intR lo n).length = n := by unfold intR; simp
end
/-- a tuple, or a list that nobody changes -/
def itemsT (t : T) : M (List Val) := fun st => (mTake t st).bind fun v st1 => match v with
  | .tup vs => .ok vs st1
  | .ktup vs => .ok vs st1
  | .lst vs => .ok vs st1
  | .scr vs => .ok vs st1
  | _ => .bad
def mItems (m : M T) : M (List Val) := fun st => (m st).bind itemsT
theorem PstI.take {K : PySem.W.Frag} {mg : Str → Option Value} {g g1 : G} {H H1 : Hp} {st1 : MS} {σ : L2.St} {W : WX} {Rr : It → Hp → Prop} {t : T} {w : V} (e : Ext g H g1 H1) (r : R K g1 st1 σ H1) (q : TR K g H g1 H1 σ t w)
    (h : match itemsT t st1 with
      | .ok xs st' => ∀ g' H' J, Ext g H g' H' → R K g' st' σ H' → SrcOk K g' H' J xs → Rr J H'
      | .exc e st' => ∀ g' cls d H', Ext g H g' H' → R K g' st' σ H' → XR K mg g' H' e cls d → W cls d σ H'
      | .bad => False) : ∃ a, w = .ref a ∧ (((∃ ws, SqT K H1 a ws) ∧ Rr (Itt K a) H1) ∨ ((∃ ws, SqL K H1 a ws) ∧ Rr (Itl K a) H1)) := by
  unfold itemsT at h
  cases h1 : mTake t st1 with
  | exc x s => exact (take_noexc h1).elim
  | bad => rw [h1] at h; exact h.elim
  | ok v s =>
    rw [h1] at h
    obtain ⟨g2, e2, r2, v2, _, _⟩ := take_ok e r q.tw h1
    cases v with
    | tup vs =>
      unfold VR at v2
      obtain ⟨a, ws, rfl, k2, k3⟩ := v2
      exact ⟨a, rfl, .inl ⟨⟨ws, SqT.of k2⟩, h g2 H1 _ e2 r2 (.tup r2.wf (.inl k2) k3)⟩⟩
    | ktup vs =>
      unfold VR at v2
      obtain ⟨a, ws, rfl, k2, k3⟩ := v2
      exact ⟨a, rfl, .inl ⟨⟨ws, .inr k2⟩, h g2 H1 _ e2 r2 (.tup r2.wf (.inr k2) k3)⟩⟩
    | lst vs =>
      unfold VR at v2
      obtain ⟨a, ws, rfl, k1, k2, k3⟩ := v2
      exact ⟨a, rfl, .inr ⟨⟨ws, SqL.of k2⟩, h g2 H1 _ e2 r2 (.lst r2.wf (.inl ⟨k1, .inl k2⟩) k3)⟩⟩
    | scr vs =>
      unfold VR at v2
      obtain ⟨a, ws, rfl, k2, k3⟩ := v2
      exact ⟨a, rfl, .inr ⟨⟨ws, k2.sq⟩, h g2 H1 _ e2 r2 (.lst r2.wf k2 k3)⟩⟩
    | _ => exact h.elim
theorem PstI.bind {α γ : Type} {RelA : RelT α γ} {K : PySem.W.Frag} {mg : Str → Option Value} {g g1 : G} {H H1 : Hp} {σ : L2.St} {W : WX} {Rr : It → Hp → Prop} {r : Out α} {k : α → M (List Val)} {Q1 : γ → Hp → Prop} (e : Ext g H g1 H1)
    (h : match r.bind k with
      | .ok xs st' => ∀ g' H' J, Ext g H g' H' → R K g' st' σ H' → SrcOk K g' H' J xs → Rr J H'
      | .exc e st' => ∀ g' cls d H', Ext g H g' H' → R K g' st' σ H' → XR K mg g' H' e cls d → W cls d σ H'
      | .bad => False)
    (hq : ∀ g2 w H2 t st2, Ext g H g2 H2 → Ext g1 H1 g2 H2 → R K g2 st2 σ H2 → RelA g1 H1 g2 H2 σ t w → (match k t st2 with
      | .ok xs st' => ∀ g' H' J, Ext g H g' H' → R K g' st' σ H' → SrcOk K g' H' J xs → Rr J H'
      | .exc e st' => ∀ g' cls d H', Ext g H g' H' → R K g' st' σ H' → XR K mg g' H' e cls d → W cls d σ H'
      | .bad => False) → Q1 w H2) : Pst K mg W RelA g1 H1 σ r Q1 := by
  cases r with
  | ok t st' => exact fun g' w H' e' r' t' => hq g' w H' t st' (e.trans e') e' r' t' h
  | exc x st' => exact fun g' c d H' e' r' t' => h g' c d H' (e.trans e') r' t'
  | bad => exact h
/-- for over a tuple or a list; which of both, is told by kind -/
theorem _root_.L2.PE.isIt {X : Cx} {tg l : Expr} {tl : TE} (hl : PE X l tl) : PI X tg l (fun σ H Rr => tl σ H fun x H1 => ∃ a, x = .ref a ∧ (((∃ ws, SqT X.K H1 a ws) ∧ Rr (Itt X.K a) H1) ∨ ((∃ ws, SqL X.K H1 a ws) ∧ Rr (Itl X.K a) H1))) where
  run pins s σ H Rr I h := by
    refine thn (hl.run pins s σ H _ I h) ?_
    rintro v s1 ⟨_, H1, I1, r1, a, rfl, q⟩
    cases r1
    -- one new cell, nobody's
    have le := Nat.le_refl s1.heap.objs.size
    have new : ∀ b ∈ [s1.heap.objs.size], FpOk X pins H1 b := fun b hb => List.mem_singleton.mp hb ▸ I1.fpOk le (I1.hok.fresh le)
    have later := fun (o : Obj) => I1.kept (h' := s1.heap.push o) (t' := s1.toks) fun b u => Heap.get?_push_of_some _
    rcases q with ⟨⟨ws, sq⟩, q⟩ | ⟨⟨ws, sq⟩, q⟩
    · obtain ⟨its, _, pt, _⟩ := I1.tuple sq
      exact wpAny_pyIter_tuple (items := its.toArray) pt ⟨_, _, _, _, H1, rfl, later _, turn_tuple a _, ⟨_, Heap.get?_push_size _ rfl, rfl, rfl⟩, new, q⟩
    · obtain ⟨its, _, pl, _⟩ := I1.list sq
      exact wpAny_pyIter_list pl.isList ⟨_, _, _, _, H1, rfl, later _, turn_list a _, ⟨_, Heap.get?_push_size _ rfl, rfl, rfl⟩, new, q⟩
section
variable {X : Cx} {W : WX} {tg e c : Expr} {m : M T} {pos : Pos}
theorem i_seq (he : SE X W e m) : SI X W tg e (mItems m) := ⟨he.isIt.im fun σ H Rr ⟨g, st, r, p⟩ => ⟨g, st, r, PstI.bind (RelA := TR X.K) Ext.refl p fun g2 w H2 t st2 e2 _ r2 q2 p2 => PstI.take e2 r2 q2 p2⟩⟩
def mRng1 (m : M T) : M (List Val) := fun st => (m st).bind fun t st1 => (asI (view t st1) st1).bind fun j st2 => if -(2 ^ 62) ≤ j ∧ j < 2 ^ 62 then .ok (intR 0 j.toNat) st2 else .bad
theorem SrcOk.rng {K : PySem.W.Frag} {g : G} {H : Hp} {lo : Int} {n : Nat} : SrcOk K g H (Itr lo n) (intR lo n) where
  go := fun g' H' e i hi => by rw [intR_len] at hi; exact hi
  stop := fun g' H' e i hi => by rw [intR_len] at hi; exact hi
  yld := fun g' H' e i x H'' hi y => by
    obtain ⟨rfl, rfl⟩ := y
    rw [intR_len] at hi
    exact ⟨Add.refl, .int (lo + (i : Nat)), intR_get hi, by unfold VR; rfl⟩
theorem asI_ok {g0 g1 : G} {H0 H1 : Hp} {st1 : MS} {σ : L2.St} {t : T} {w : V} (r : R X.K g1 st1 σ H1) (q1 : TR X.K g0 H0 g1 H1 σ t w) : (∃ i, asI (view t st1) st1 = .ok i st1 ∧ w = .int i) ∨ asI (view t st1) st1 = .bad := by
  cases ev : view t st1 with
  | none => exact .inr rfl
  | some v =>
    have z := view_ok r q1 ev
    cases v with
    | int i => unfold Vw VR at z; exact .inl ⟨i, rfl, z⟩
    | _ => exact .inr rfl
theorem i_rng1 {p pos : Pos} (hg : Gl X "range") (hm : X.mg "range" = none) (ha : SE X W e m) (hs : starEach [e] X.env = [(false, eval e X.env)] := by rfl)
    (hst : starEach (e :: []) X.env = (false, eval e X.env) :: starEach [] X.env := by rfl) : SI X W tg (.Call (.Name "range" p) [e] [] pos) (mRng1 m) :=
  ⟨(pi_range1 hg hm (pa_cons ha pa_nil hst) hs).im fun σ H Rr ⟨g, st, r, p⟩ => ⟨g, st, r, PstI.bind (RelA := TR X.K) Ext.refl p fun g2 w H2 t st2 e2 _ r2 q2 p2 => by
    rcases asI_ok r2 q2 with ⟨j, hj, rfl⟩ | hj
    · rw [hj] at p2
      by_cases hb : -(2 ^ 62) ≤ j ∧ j < 2 ^ 62
      · simp only [Out.bind, if_pos hb] at p2
        exact ⟨j, rfl, hb.1, hb.2, p2 g2 H2 _ e2 r2 .rng⟩
      · simp only [Out.bind, if_neg hb] at p2
    · rw [hj] at p2; exact p2.elim⟩⟩
/-! ### for -/
def loop (gt : T → M Unit) (body : M Fl) : List Val → M Fl
  | [] => fun st => .ok .nx st
  | x :: xs => fun st => (gt (.val x) st).bind fun _ st1 => (body st1).bind fun f st2 => match f with
    | .nx => loop gt body xs st2
    | .cnt => loop gt body xs st2
    | .brk => .ok .nx st2
    | .ret t => .ok (.ret t) st2
def mFor (mi : M (List Val)) (gt : T → M Unit) (body : M Fl) : M Fl := fun st => (mi st).bind fun xs st1 => loop gt body xs st1
theorem SPst.loop {K : PySem.W.Frag} {mg : Str → Option Value} {W : WX} {g g1 : G} {H H1 : Hp} {D : Ends} {gt : T → M Unit} {body : M Fl} {xs : List Val} {r : Out Fl} {N : L2.St → Hp → Prop} (e : Ext g H g1 H1) (h : SPst K mg W g H (r.bind fun f st2 => match f with
    | .nx => Sm.loop gt body xs st2
    | .cnt => Sm.loop gt body xs st2
    | .brk => .ok .nx st2
    | .ret t => .ok (.ret t) st2) D) (hN : ∀ g' σ' H' st', Ext g H g' H' → Ext g1 H1 g' H' → R K g' st' σ' H' → SPst K mg W g H (Sm.loop gt body xs st') D → N σ' H') : SPst K mg W g1 H1 r { D with nx := N, ct := N, bk := D.nx } := by
  cases r with
  | bad => exact h
  | exc x st' => exact SPst.sh (r := .exc x st') e h
  | ok f st' =>
    cases f with
    | nx => exact fun g' σ' H' e' r' => hN g' σ' H' st' (e.trans e') e' r' h
    | cnt => exact fun g' σ' H' e' r' => hN g' σ' H' st' (e.trans e') e' r' h
    | brk => exact fun g' σ' H' e' r' => h g' σ' H' (e.trans e') r'
    | ret t => exact SPst.sh (r := .ok (.ret t) st') e h
theorem k_for {iter : Expr} {body : List Stmt} {mi : M (List Val)} {gt : T → M Unit} {mb : M Fl} {pos : Pos} (hp : PassesOwn (model X.prog X.w) X.A X.env X.xe) (hc : X.calm = true) (hi : SI X W tg iter mi) (hg : SG X W fAll tg gt) (hb : SSs X W body mb)
    (hs : ∀ x, foldedSetIterable iter X.env x = pure x := by intro _; rfl) : SS X W (.For tg iter body [] pos) (mFor mi gt mb) := (ps_for hp hc hi.ex hg hb hs).im fun D σ H ⟨g, st, r, p⟩ => by
  refine ⟨g, st, r, ?_⟩
  have p : SPst X.K X.mg W g H ((mi st).bind fun xs st1 => loop gt mb xs st1) D := p
  cases hm : mi st with
  | bad => rw [hm] at p; exact p.elim
  | exc x s => rw [hm] at p; exact fun g' cls d H' e' r' x' => p g' cls d σ H' e' r' x'
  | ok xs s =>
    rw [hm] at p
    intro g1 H1 J e1 r1 src
    have p : SPst X.K X.mg W g H (loop gt mb xs s) D := p
    refine ⟨fun i m σ' H' => i ≤ xs.length ∧ m = xs.length - i ∧ ∃ g' s', Ext g H g' H' ∧ Ext g1 H1 g' H' ∧ R X.K g' s' σ' H' ∧ SPst X.K X.mg W g H (loop gt mb (xs.drop i) s') D, ⟨xs.length, Nat.zero_le _, rfl, g1, s, e1, .refl, r1, p⟩, ?_⟩
    rintro i m σ' H' ⟨hi, rfl, g', s', e', e1', r', p'⟩
    by_cases hl : i < xs.length
    · refine .inr ⟨src.go g' H' e1' i hl, fun σ2 H2 => i + 1 ≤ xs.length ∧ ∃ g' s', Ext g H g' H2 ∧ Ext g1 H1 g' H2 ∧ R X.K g' s' σ2 H2 ∧ SPst X.K X.mg W g H (loop gt mb (xs.drop (i + 1)) s') D, fun σ2 H2 ⟨hl2, g', s', a1, a2, a3, a4⟩ => ⟨xs.length - (i + 1), by omega, hl2, rfl, g', s', a1, a2, a3, a4⟩, fun x H'' hy => ?_⟩
      obtain ⟨ad, v, hv, qv⟩ := src.yld g' H' e1' i x H'' hl hy
      have e2 : Ext g' H' g' H'' := ad.ext
      have hd : xs.drop i = v :: xs.drop (i + 1) := by
        rw [List.drop_eq_getElem_cons hl]
        rw [List.getElem?_eq_getElem hl] at hv
        cases hv; rfl
      rw [hd] at p'
      have r2 := r'.add ad
      refine ⟨g', H'', g', s', .val v, .refl, r2, qv, ?_⟩
      have p' : SPst X.K X.mg W g H ((gt (.val v) s').bind fun _ st1 => (mb st1).bind fun f st2 => match f with
        | .nx => loop gt mb (xs.drop (i + 1)) st2
        | .cnt => loop gt mb (xs.drop (i + 1)) st2
        | .brk => .ok .nx st2
        | .ret t => .ok (.ret t) st2) D := p'
      have eb : Ext g H g' H'' := e'.trans e2
      cases hg : gt (.val v) s' with
      | bad => rw [hg] at p'; exact p'.elim
      | exc y s2 => rw [hg] at p'; exact fun g3 cls d σ3 H3 e3 r3 x3 => p' g3 cls d σ3 H3 (eb.trans e3) r3 x3
      | ok u s2 =>
        rw [hg] at p'
        intro g3 σ3 H3 e3 r3 _
        refine ⟨g3, s2, r3, ?_⟩
        exact SPst.loop (eb.trans e3) p' fun g4 σ4 H4 s4 e4 e4' r4 p4 => ⟨hl, g4, s4, e4, e1'.trans (e2.trans (e3.trans e4')), r4, p4⟩
    · have : i = xs.length := by omega
      subst this
      rw [List.drop_length] at p'
      exact .inl ⟨src.stop g' H' e1' _ (Nat.le_refl _), p' g' σ' H' e' r'⟩
/-! ### while -/
def wloop (c : M Bool) (body : M Fl) : Nat → M Fl
  | 0 => fun _ => .bad
  | n + 1 => fun st => (c st).bind fun k st1 => if k = true then (body st1).bind fun f st2 => match f with
    | .nx => wloop c body n st2
    | .cnt => wloop c body n st2
    | .brk => .ok .nx st2
    | .ret t => .ok (.ret t) st2
    else .ok .nx st1
theorem SPst.wloop {K : PySem.W.Frag} {mg : Str → Option Value} {W : WX} {g g1 : G} {H H1 : Hp} {D : Ends} {c : M Bool} {body : M Fl} {n : Nat} {r : Out Fl} {N : L2.St → Hp → Prop} (e : Ext g H g1 H1) (h : SPst K mg W g H (r.bind fun f st2 => match f with
    | .nx => Sm.wloop c body n st2
    | .cnt => Sm.wloop c body n st2
    | .brk => .ok .nx st2
    | .ret t => .ok (.ret t) st2) D) (hN : ∀ g' σ' H' st', Ext g H g' H' → R K g' st' σ' H' → SPst K mg W g H (Sm.wloop c body n st') D → N σ' H') : SPst K mg W g1 H1 r { D with nx := N, ct := N, bk := D.nx } := by
  cases r with
  | bad => exact h
  | exc x st' => exact SPst.sh (r := .exc x st') e h
  | ok f st' =>
    cases f with
    | nx => exact fun g' σ' H' e' r' => hN g' σ' H' st' (e.trans e') r' h
    | cnt => exact fun g' σ' H' e' r' => hN g' σ' H' st' (e.trans e') r' h
    | brk => exact fun g' σ' H' e' r' => h g' σ' H' (e.trans e') r'
    | ret t => exact SPst.sh (r := .ok (.ret t) st') e h
theorem k_while {body : List Stmt} {mc : M Bool} {mb : M Fl} {pos : Pos} (n : Nat) (hp : PassesOwn (model X.prog X.w) X.A X.env X.xe) (hc : ST X W c mc) (hb : SSs X W body mb) : SS X W (.While c body [] pos) (wloop mc mb n) :=
  (ps_while hp hc hb).im fun D σ H ⟨g, st, r, p⟩ => by
  refine ⟨fun m σ' H' => ∃ g' s', Ext g H g' H' ∧ R X.K g' s' σ' H' ∧ SPst X.K X.mg W g H (wloop mc mb m s') D, ⟨n, g, st, .refl, r, p⟩, ?_⟩
  rintro m σ' H' ⟨g', s', e', r', p'⟩
  cases m with
  | zero => exact p'.elim
  | succ m =>
    refine ⟨g', s', r', SPst.bind (RelA := RB) e' p' fun g2 w H2 t st2 e2 e2' r2 q2 p2 => ?_⟩
    have q2 : w = t := q2
    subst q2
    cases w with
    | false => exact iteF (p2 g2 σ' H2 e2 r2)
    | true =>
      refine iteT ⟨fun σ3 H3 => ∃ g3 s3, Ext g H g3 H3 ∧ R X.K g3 s3 σ3 H3 ∧ SPst X.K X.mg W g H (wloop mc mb m s3) D, fun σ3 H3 z => ⟨m, Nat.lt_succ_self _, z⟩, g2, st2, r2, ?_⟩
      exact SPst.wloop e2 p2 fun g3 σ3 H3 s3 e3 r3 p3 => ⟨g3, s3, e3, r3, p3⟩
end
end Sm

namespace Sm
open PySem L2
/-! ### comprehensions -/
def wipeS (sl : List Sl) : List Nat → List Sl
  | [] => sl
  | v :: vs => (wipeS sl vs).set v .no
def unwipe (old : List Sl) (sl : List Sl) : List Nat → List Sl
  | [] => sl
  | v :: vs => (unwipe old sl vs).set v (match old[v]? with
    | some (.val x) => .val x
    | _ => .no)
abbrev inF (vs : List Nat) : Nat → Bool := fun i => vs.contains i
def cloop (vs : List Nat) (gt : T → M Unit) (ct : M Bool) (el : M T) : List Val → M (List Val)
  | [] => fun st => .ok [] st
  | x :: xs => fun st => (gt (.val x) { st with sl := wipeS st.sl vs }).bind fun _ st1 => (ct st1).bind fun b st2 => if b = true then (el st2).bind fun t st3 => (mTake t st3).bind fun v st4 => (cloop vs gt ct el xs st4).bind fun ys st5 => .ok (v :: ys) st5
    else cloop vs gt ct el xs st2
/-- nothing that is raised leaves a block -/
def noexc {α : Type} : Out α → Out α
  | .exc _ _ => .bad
  | r => r
def mComp (vs : List Nat) (mi : M (List Val)) (gt : T → M Unit) (ct : M Bool) (el : M T) : M T := fun st => (mi st).bind fun xs st1 => if xs.length ≤ 16777216 then (noexc (cloop vs gt ct el xs st1)).bind fun ys st2 => .ok (.own ys) { st2 with sl := unwipe st1.sl st2.sl vs } else .bad
def mYes : M Bool := fun st => .ok true st
section
variable {K : PySem.W.Frag} {mg : Str → Option Value} {g g0 g1 g2 : G} {H H0 H1 H2 : Hp} {st st1 st2 : MS} {σ σ' : L2.St} {W : WX} {xs : List Val}
theorem wipeS_length {sl : List Sl} : ∀ {vs : List Nat}, (wipeS sl vs).length = sl.length
  | [] => rfl
  | v :: vs => by unfold wipeS; rw [List.length_set, wipeS_length]
theorem wipeS_in {sl : List Sl} {i : Nat} : ∀ {vs : List Nat}, i ∈ vs → i < sl.length → (wipeS sl vs)[i]? = some .no
  | v :: vs, h, hl => by
    unfold wipeS
    by_cases e : v = i
    · subst e; rw [List.getElem?_set_self (by rw [wipeS_length]; exact hl)]
    · rw [List.getElem?_set_ne e]
      rcases List.mem_cons.mp h with h | h
      · exact absurd h.symm e
      · exact wipeS_in h hl
theorem wipeS_out {sl : List Sl} {i : Nat} : ∀ {vs : List Nat}, i ∉ vs → (wipeS sl vs)[i]? = sl[i]?
  | [], h => rfl
  | v :: vs, h => by
    simp only [List.mem_cons, not_or] at h
    unfold wipeS
    rw [List.getElem?_set_ne (fun e => h.1 e.symm)]
    exact wipeS_out h.2
theorem wipe_in {σ : L2.St} {i : Nat} : ∀ {vs : List Nat}, i ∈ vs → i < σ.length → (wipe σ vs)[i]? = some none
  | v :: vs, h, hl => by
    unfold wipe
    by_cases e : v = i
    · subst e; rw [List.getElem?_set_self (by rw [wipe_length]; exact hl)]
    · rw [List.getElem?_set_ne e]
      rcases List.mem_cons.mp h with h | h
      · exact absurd h.symm e
      · exact wipe_in h hl
theorem wipe_agr {vs : List Nat} {σ σ2 : L2.St} (a : Agr (inF vs) (wipe σ vs) σ2) : wipe σ2 vs = wipe σ vs := by
  have hl : σ2.length = σ.length := a.len.trans (wipe_length σ vs)
  apply List.ext_getElem?
  intro i
  by_cases hi : i ∈ vs
  · by_cases hl2 : i < σ.length
    · rw [wipe_in hi (by rw [hl]; exact hl2), wipe_in hi hl2]
    · rw [List.getElem?_eq_none (by rw [wipe_length, hl]; omega), List.getElem?_eq_none (by rw [wipe_length]; omega)]
  · rw [wipe_out hi]
    exact a.out i (by unfold inF; simpa using hi)
/-- slots that hold nothing may hold anything -/
theorem R.slots {sl : List Sl} {σ' : L2.St} {O : Nat → Option Addr} (r : R K g1 st1 σ H1) (hl : sl.length = st1.sl.length) (hl' : σ'.length = σ.length)
    (hv : ∀ (i : Nat) (v : Val), sl[i]? = some (.val v) → ∃ w, σ'[i]? = some (some w) ∧ VR K g1 H1 v w) (ho : ∀ (i : Nat) (vs : List Val), sl[i]? = some (.own vs) → st1.sl[i]? = some (.own vs) ∧ σ'[i]? = σ[i]? ∧ O i = g1.O i)
    (hO : ∀ i a, O i = some a → g1.O i = some a ∧ sl[i]? = st1.sl[i]?) : R K { g1 with O := O } { st1 with sl := sl } σ' H1 where
  toRH := r.toRH.O _
  len := by show sl.length = _; rw [hl, hl']; exact r.len
  vl := fun i v h => by
    obtain ⟨w, h1, h2⟩ := hv i v h
    exact ⟨w, h1, h2.O _⟩
  ow := fun i vs h => by
    obtain ⟨k1, k2, k3⟩ := ho i vs h
    obtain ⟨a, ws, h1, h2, h3, h4⟩ := r.ow i vs k1
    exact ⟨a, ws, k3.trans h1, k2.trans h2, h3, h4.O _⟩
  oi := fun i a h => by
    obtain ⟨k1, k2⟩ := hO i a h
    obtain ⟨⟨vs, h0⟩, h1, h2⟩ := r.oi i a k1
    exact ⟨⟨vs, k2.trans h0⟩, h1, h2⟩
  oinj := fun i j a h h' => r.oinj i j a (hO i a h).1 (hO j a h').1
/-- the block's slots forgotten -/
def oWipe (O : Nat → Option Addr) (vs : List Nat) : Nat → Option Addr := fun i => if i ∈ vs then none else O i
theorem oWipe_dn {O : Nat → Option Addr} {vs : List Nat} {i : Nat} {a : Addr} (h : oWipe O vs i = some a) : i ∉ vs ∧ O i = some a := by
  unfold oWipe at h
  split at h
  · cases h
  · rename_i q; exact ⟨q, h⟩
theorem R.wiped {vs : List Nat} (r : R K g1 st1 σ H1) : R K { g1 with O := oWipe g1.O vs } { st1 with sl := wipeS st1.sl vs } (wipe σ vs) H1 := by
  have lt : ∀ {i : Nat} {x : Sl}, (wipeS st1.sl vs)[i]? = some x → i < st1.sl.length := fun h => by have := lt_of_get h; rw [wipeS_length] at this; exact this
  refine r.slots wipeS_length (wipe_length σ vs) (fun i v h => ?_) (fun i us h => ?_) (fun i a h => ?_)
  · by_cases hi : i ∈ vs
    · rw [wipeS_in hi (lt h)] at h; cases h
    · rw [wipeS_out hi] at h
      rw [wipe_out hi]
      exact r.vl i v h
  · by_cases hi : i ∈ vs
    · rw [wipeS_in hi (lt h)] at h; cases h
    · rw [wipeS_out hi] at h
      exact ⟨h, wipe_out hi, by unfold oWipe; rw [if_neg hi]⟩
  · obtain ⟨h1, h2⟩ := oWipe_dn h
    exact ⟨h2, wipeS_out h1⟩
theorem Ext.wiped {vs : List Nat} (e : Ext g H g1 H1) : Ext g H { g1 with O := oWipe g1.O vs } H1 := e.O fun i a h => e.oN i a (oWipe_dn h).2
theorem unwipe_length {old sl : List Sl} : ∀ {vs : List Nat}, (unwipe old sl vs).length = sl.length
  | [] => rfl
  | v :: vs => by unfold unwipe; rw [List.length_set, unwipe_length]
theorem unwipe_in {old sl : List Sl} {i : Nat} {x : Sl} : ∀ {vs : List Nat}, i ∈ vs → (unwipe old sl vs)[i]? = some x → x = (match old[i]? with
    | some (.val y) => .val y
    | _ => .no)
  | v :: vs, h, hx => by
    unfold unwipe at hx
    by_cases e : v = i
    · subst e
      have hl := lt_of_get hx
      rw [List.length_set] at hl
      rw [List.getElem?_set_self hl] at hx
      exact (Option.some.inj hx).symm
    · rw [List.getElem?_set_ne e] at hx
      rcases List.mem_cons.mp h with h | h
      · exact absurd h.symm e
      · exact unwipe_in h hx
theorem unwipe_out {old sl : List Sl} {i : Nat} : ∀ {vs : List Nat}, i ∉ vs → (unwipe old sl vs)[i]? = sl[i]?
  | [], h => rfl
  | v :: vs, h => by
    simp only [List.mem_cons, not_or] at h
    unfold unwipe
    rw [List.getElem?_set_ne (fun e => h.1 e.symm)]
    exact unwipe_out h.2
/-- behind the block: σ as ahead of it -/
theorem R.unwiped {vs : List Nat} (r0 : R K g st σ H) (e : Ext g H g1 H1) (r : R K g1 st1 σ' H1) (hw : wipe σ' vs = wipe σ vs) : R K { g1 with O := oWipe g1.O vs } { st1 with sl := unwipe st.sl st1.sl vs } σ H1 := by
  have hl : σ'.length = σ.length := by rw [← wipe_length σ' vs, hw, wipe_length]
  have ho : ∀ i, i ∉ vs → σ[i]? = σ'[i]? := fun i hi => by rw [← wipe_out (vs := vs) hi, ← hw, wipe_out hi]
  refine r.slots unwipe_length hl.symm (fun i v h => ?_) (fun i us h => ?_) (fun i a h => ?_)
  · by_cases hi : i ∈ vs
    · have z := unwipe_in hi h
      split at z
      · rename_i y ey
        cases z
        obtain ⟨w, h1, h2⟩ := r0.vl i v ey
        exact ⟨w, h1, VR.ext r0.wf e _ _ h2⟩
      · cases z
    · rw [unwipe_out hi] at h
      rw [ho i hi]
      exact r.vl i v h
  · by_cases hi : i ∈ vs
    · have z := unwipe_in hi h
      split at z <;> cases z
    · rw [unwipe_out hi] at h
      exact ⟨h, ho i hi, by unfold oWipe; rw [if_neg hi]⟩
  · obtain ⟨h1, h2⟩ := oWipe_dn h
    exact ⟨h2, unwipe_out h1⟩
/-! a list that is none of ours is changed -/
mutual
theorem VR.other {D : Addr} {o : HO} (hS : ¬ g.S D) (hm : ∃ l, H D = some (.lst l)) : ∀ (v : Val) (w : V), VR K g H v w → VR K g (upd H D o) v w
  | .non, x, h => by unfold VR at h ⊢; exact h
  | .bl b, x, h => by unfold VR at h ⊢; exact h
  | .int i, x, h => by unfold VR at h ⊢; exact h
  | .str s, x, h => by unfold VR at h ⊢; exact h
  | .ty s, x, h => by unfold VR at h ⊢; exact h
  | .adr s d ns vs, x, h => by
    unfold VR at h ⊢
    obtain ⟨h1, h2 | ⟨p, ws, h2, h3, h4, h5⟩⟩ := h
    · exact ⟨h1, .inl h2⟩
    · exact ⟨h1, .inr ⟨p, ws, h2, by rw [upd_ne (fun z => by obtain ⟨l, hm⟩ := hm; rw [← z, h3] at hm; cases hm)]; exact h3, h4, VRs.other hS hm vs _ h5⟩⟩
  | .lam s, x, h => by
    unfold VR at h ⊢
    obtain ⟨f, h1, c', dv, h2, h3, h4⟩ := h
    obtain ⟨l, hm⟩ := hm
    refine ⟨f, h1, c', dv, by rw [upd_ne (fun z => by rw [← z, h2] at hm; cases hm)]; exact h2, by rw [upd_ne (fun z => by rw [← z, h3] at hm; cases hm)]; exact h3, ?_⟩
    split at h4
    · exact h4
    · obtain ⟨t, e1, e2⟩ := h4
      exact ⟨t, e1, by rw [upd_ne (fun z => by rw [← z, e2] at hm; cases hm)]; exact e2⟩
  | .tup vs, x, h => by
    unfold VR at h ⊢
    obtain ⟨a, ws, h1, h2, h3⟩ := h
    exact ⟨a, ws, h1, by rw [upd_ne (fun z => by obtain ⟨l, hm⟩ := hm; rw [← z, h2] at hm; cases hm)]; exact h2, VRs.other hS hm vs ws h3⟩
  | .ktup vs, x, h => by
    unfold VR at h ⊢
    obtain ⟨a, ws, h1, h2, h3⟩ := h
    exact ⟨a, ws, h1, h2, VRs.other hS hm vs ws h3⟩
  | .lst vs, x, h => by
    unfold VR at h ⊢
    obtain ⟨a, ws, h1, hs, h2, h3⟩ := h
    have hne : a ≠ D := fun z => hS (z ▸ hs)
    exact ⟨a, ws, h1, hs, by rw [upd_ne hne]; exact h2, VRs.other hS hm vs ws h3⟩
  | .scr vs, x, h => by
    unfold VR at h ⊢
    obtain ⟨a, ws, h1, h2, h3⟩ := h
    refine ⟨a, ws, h1, ?_, VRs.other hS hm vs ws h3⟩
    rcases h2 with ⟨hs, h2 | ⟨ob, h2⟩⟩ | h2
    · have hne : a ≠ D := fun z => hS (z ▸ hs)
      exact .inl ⟨hs, .inl (by rw [upd_ne hne]; exact h2)⟩
    · have hne : a ≠ D := fun z => hS (z ▸ hs)
      exact .inl ⟨hs, .inr ⟨ob, by rw [upd_ne hne]; exact h2⟩⟩
    · exact .inr h2
  | .ref n, x, h => by
    unfold VR at h ⊢
    exact h
theorem VRs.other {D : Addr} {o : HO} (hS : ¬ g.S D) (hm : ∃ l, H D = some (.lst l)) : ∀ (vs : List Val) (ws : List V), VRs K g H vs ws → VRs K g (upd H D o) vs ws
  | [], x, h => by unfold VRs at h ⊢; exact h
  | v :: vs, x, h => by
    unfold VRs at h ⊢
    obtain ⟨a, r, h1, h2, h3⟩ := h
    exact ⟨a, r, h1, VR.other hS hm v a h2, VRs.other hS hm vs r h3⟩
end
theorem OR.other {D a : Addr} {o : HO} (hS : ¬ g.S D) (hm : ∃ l, H D = some (.lst l)) (hD : a ≠ D) {b : Ob} (h : OR K g H b a) : OR K g (upd H D o) b a := h.imp (VR.other hS hm) (upd_ne hD)
theorem R.other {D : Addr} {o : HO} (r : R K g st σ H) (hS : ¬ g.S D) (hr : ∀ n, g.rho n ≠ some D) (hO : ∀ i, g.O i ≠ some D) (hl : ∃ l, H D = some (.lst l)) : R K g st σ (upd H D o) :=
  have hm := hl
  have hm2 : Mut (H D) := by obtain ⟨l, z⟩ := hl; rw [z]; exact True.intro
  {
  dom := r.dom
  ob := fun n b h => by
    obtain ⟨a, h1, h2⟩ := r.ob n b h
    exact ⟨a, h1, h2.other hS hm fun z => hr n (z ▸ h1)⟩
  inj := r.inj
  sr := r.sr
  sa := fun a h z => by
    by_cases e : a = D
    · exact hS (e ▸ h)
    · rw [upd_ne e] at z; exact r.sa a h z
  len := r.len
  vl := fun i v h => by
    obtain ⟨w, h1, h2⟩ := r.vl i v h
    exact ⟨w, h1, VR.other hS hm _ _ h2⟩
  ow := fun i vs h => by
    obtain ⟨a, ws, h1, h2, h3, h4⟩ := r.ow i vs h
    have hne : a ≠ D := fun z => hO i (z ▸ h1)
    exact ⟨a, ws, h1, h2, (upd_ne hne).trans h3, VRs.other hS hm _ _ h4⟩
  oi := r.oi
  oinj := r.oinj
  tb := tabs_upd r.tb hm2 (fun q z => by obtain ⟨l, y⟩ := hl; rw [y] at z; cases z) }
/-- relative to a start at which D was not -/
theorem Ext.other {D : Addr} {o : HO} (e : Ext g H g1 H1) (hD : H D = none) : Ext g H g1 (upd H1 D o) :=
  ⟨e.rho, e.s, fun a x h t hr ho => by rw [upd_ne (ne_of_none h hD)]; exact e.fr a x h t hr ho, fun a z => by
    by_cases q : a = D
    · rw [q]; exact hD
    · rw [upd_ne q] at z; exact e.nn a z, e.rhoN, e.sN, e.oN⟩
end
abbrev sTs (X : Cx) (W : WX) (ifs : List Expr) (m : M Bool) : Prop := PTs X ifs (sT X.K X.mg W m)
theorem _root_.L2.PTs.im {X : Cx} {e : List Expr} {t t' : TT} (h : PTs X e t) (hi : ∀ σ H Q, t' σ H Q → t σ H Q) : PTs X e t' := ⟨fun pins s σ H Q I q => h.run pins s σ H Q I (hi _ _ _ q)⟩
theorem c_yes {X : Cx} {W : WX} : sTs X W [] mYes := pts_nil.im fun σ H Q ⟨g, st, r, p⟩ => p g true H Ext.refl r rfl
theorem c_if {X : Cx} {W : WX} {c : Expr} {m : M Bool} (h : ST X W c m) : sTs X W [c] m := pts_one h
abbrev W0 : WX := fun _ _ _ _ => False
theorem TR.wiped {K : PySem.W.Frag} {g0 g1 : G} {H0 H1 : Hp} {σ σ' : L2.St} {vs : List Nat} {acc : List Val} {w : V} (h : TR K g0 H0 g1 H1 σ (.own acc) w) : TR K g0 H0 { g1 with O := oWipe g1.O vs } H1 σ' (.own acc) w := by
  obtain ⟨a, ws, h1, h2, h3, h4, h5, h6, h7⟩ := h
  exact ⟨a, ws, h1, h2, h3.O _, h4, h5, fun i z => h6 i (oWipe_dn z).2, h7⟩
section
variable {K : PySem.W.Frag} {mg : Str → Option Value} {W : WX} {vs : List Nat} {mi : M (List Val)} {gt : T → M Unit} {ct : M Bool} {el : M T} {σ : L2.St} {H : Hp} {Q : VK}
/-- what is wanted of the rest of the loop -/
def PcL (K : PySem.W.Frag) (mg : Str → Option Value) (W : WX) (vs : List Nat) (gt : T → M Unit) (ct : M Bool) (el : M T) (s1 : MS) (g : G) (H : Hp) (σ : L2.St) (Q : VK) (acc rest : List Val) (s : MS) : Prop := match cloop vs gt ct el rest s with
  | .ok ys st2 => Pst K mg W (TR K) g H σ (.ok (.own (acc ++ ys)) { st2 with sl := unwipe s1.sl st2.sl vs }) Q
  | _ => False
theorem comp_ok (h : sE K mg W (mComp vs mi gt ct el) σ H Q) : tLc (sI K mg W mi) (sG K mg W0 (inF vs) gt) (sT K mg W0 ct) (sE K mg W0 el) vs σ H Q := by
  obtain ⟨g, st, r, p⟩ := h
  refine ⟨g, st, r, ?_⟩
  have p : Pst K mg W (TR K) g H σ ((mi st).bind fun xs st1 => if xs.length ≤ 16777216 then (noexc (cloop vs gt ct el xs st1)).bind fun ys st2 => .ok (.own ys) { st2 with sl := unwipe st1.sl st2.sl vs } else .bad) Q := p
  cases hm : mi st with
  | bad => rw [hm] at p; exact p.elim
  | exc x s => rw [hm] at p; exact p
  | ok xs s1 =>
    rw [hm] at p
    intro g1 H1 J e1 r1 src D hD
    have p : Pst K mg W (TR K) g H σ (if xs.length ≤ 16777216 then (noexc (cloop vs gt ct el xs s1)).bind fun ys st2 => .ok (.own ys) { st2 with sl := unwipe s1.sl st2.sl vs } else .bad) Q := p
    split at p
    case isFalse => exact p.elim
    rename_i hsz
    have p0 : PcL K mg W vs gt ct el s1 g H σ Q [] xs s1 := by
      unfold PcL
      cases hc : cloop vs gt ct el xs s1 with
      | bad => rw [hc] at p; exact p
      | exc x s => rw [hc] at p; exact p
      | ok ys s2 => rw [hc] at p; exact p
    have hD0 : H D = none := e1.nn D hD
    have aD : Add H1 (upd H1 D (.lst [])) := Add.upd hD
    have tr0 : TR K g H g1 (upd H1 D (.lst [])) σ (.own []) (.ref D) := ⟨D, [], rfl, upd_same, VRs.nil, fun z => r1.sa D z hD, r1.wf.no_rho hD, r1.wf.no_O hD, .inl hD0⟩
    let Inv : Nat → Hp → Prop := fun i H' => ∃ g' s' σ' acc, Ext g H g' H' ∧ Ext g1 H1 g' H' ∧ R K g' s' σ' H' ∧ wipe σ' vs = wipe σ vs ∧ TR K g H g' H' σ (.own acc) (.ref D) ∧ acc.length ≤ i ∧ PcL K mg W vs gt ct el s1 g H σ Q acc (xs.drop i) s'
    refine ⟨fun i m H' => i ≤ xs.length ∧ m = xs.length - i ∧ Inv i H', ⟨xs.length, Nat.zero_le _, rfl, g1, s1, σ, [], e1.trans aD.ext, aD.ext, r1.add aD, rfl, tr0, Nat.le_refl _, p0⟩, ?_⟩
    rintro i m H' ⟨hi, rfl, g', s', σ', acc, e', e1', r', hw, tr, hacc, p'⟩
    by_cases hl : i < xs.length
    case neg =>
      have : i = xs.length := by omega
      subst this
      rw [List.drop_length] at p'
      refine .inl ⟨src.stop g' H' e1' _ (Nat.le_refl _), ?_⟩
      have p' : Pst K mg W (TR K) g H σ (.ok (.own (acc ++ [])) { s' with sl := unwipe s1.sl s'.sl vs }) Q := p'
      rw [List.append_nil] at p'
      exact p' _ _ H' e'.wiped (r1.unwiped e1' r' hw) tr.wiped
    refine .inr ⟨src.go g' H' e1' i hl, fun H' => i + 1 ≤ xs.length ∧ Inv (i + 1) H', fun H2 ⟨a1, a2⟩ => ⟨xs.length - (i + 1), by omega, a1, rfl, a2⟩, fun x H'' hy => ?_⟩
    obtain ⟨ad, v, hv, qv⟩ := src.yld g' H' e1' i x H'' hl hy
    have hd : xs.drop i = v :: xs.drop (i + 1) := by
      rw [List.drop_eq_getElem_cons hl]
      rw [List.getElem?_eq_getElem hl] at hv
      cases hv; rfl
    rw [hd] at p'
    have r2 := r'.add ad
    have rw2 := r2.wiped (vs := vs)
    have tr2 : TR K g H { g' with O := oWipe g'.O vs } H'' σ (.own acc) (.ref D) := (TR.rel.ext r'.wf ad.ext tr).wiped
    rw [hw] at rw2
    have eb : Ext g H { g' with O := oWipe g'.O vs } H'' := (e'.trans ad.ext).wiped
    have eb1 : Ext g1 H1 { g' with O := oWipe g'.O vs } H'' := (e1'.trans ad.ext).wiped
    refine ⟨_, H'', _, { s' with sl := wipeS s'.sl vs }, .val v, .refl, rw2, VR.O _ qv, ?_⟩
    simp only [PcL, cloop] at p'
    cases hg : gt (.val v) { s' with sl := wipeS s'.sl vs } with
    | bad => rw [hg] at p'; exact p'.elim
    | exc y s2 => rw [hg] at p'; exact p'.elim
    | ok u s2 =>
      rw [hg] at p'
      intro g3 σ3 H3 e3 r3 a3
      have hw3 := wipe_agr a3
      refine ⟨hw3, g3, s2, r3, ?_⟩
      simp only [Out.bind] at p'
      cases hc : ct s2 with
      | bad => rw [hc] at p'; exact p'.elim
      | exc y s3 => rw [hc] at p'; exact p'.elim
      | ok b s3 =>
        rw [hc] at p'
        intro g4 b' H4 e4 r4 hb
        have hb : b' = b := hb
        subst hb
        have tr4 := TR.rel.ext r3.wf e4 (TR.rel.ext rw2.wf e3 tr2)
        have e34 := e3.trans e4
        cases b' with
        | false =>
          refine iteF ⟨hl, g4, s3, σ3, acc, eb.trans e34, eb1.trans e34, r4, hw3, tr4, Nat.le_succ_of_le hacc, ?_⟩
          simp only [if_neg Bool.false_ne_true] at p'
          exact p'
        | true =>
          refine iteT ⟨g4, s3, r4, ?_⟩
          simp only [if_true] at p'
          cases he : el s3 with
          | bad => rw [he] at p'; exact p'.elim
          | exc y s4 => rw [he] at p'; exact p'.elim
          | ok t s4 =>
            rw [he] at p'
            intro g5 y H5 e5 r5 q5
            have tr5 := TR.rel.ext r4.wf e5 tr4
            simp only [] at p'
            cases ht : mTake t s4 with
            | bad => rw [ht] at p'; exact p'.elim
            | exc y s5 => exact (take_noexc ht).elim
            | ok v' s5 =>
              rw [ht] at p'
              simp only [] at p'
              obtain ⟨g6, e6, r6, v6, l6, _⟩ := take_ok e5 r5 q5.tw ht
              -- the new list is still the block's own
              have tr6 := TR.rel.ext r4.wf e6 tr4
              obtain ⟨D', accW, h1, h2, h3, h4, h5, h6, h7⟩ := tr6
              cases h1
              have hlen : accW.length = acc.length := h3.length.symm
              refine ⟨accW, h2, by rw [hlen, sizeLine_eq]; omega, hl, g6, s5, σ3, acc ++ [v'], ?_, ?_, ?_, hw3, ?_, ?_, ?_⟩
              · exact (eb.trans (e34.trans e6)).other hD0
              · exact (eb1.trans (e34.trans e6)).other hD
              · exact r6.other h4 h5 h6 ⟨_, h2⟩
              · have hm : ∃ l, H5 D = some (.lst l) := ⟨_, h2⟩
                exact ⟨D, _, rfl, upd_same, VRs.app (VRs.other h4 hm _ _ h3) (VRs.other h4 hm _ _ (VRs.cons v6 VRs.nil)), h4, h5, h6, h7⟩
              · rw [List.length_append]; exact Nat.succ_le_succ hacc
              · unfold PcL
                cases hk : cloop vs gt ct el (xs.drop (i + 1)) s5 with
                | bad => rw [hk] at p'; exact p'
                | exc y s6 => rw [hk] at p'; exact p'
                | ok ys s6 =>
                  rw [hk] at p'
                  simp only [List.append_assoc, List.singleton_append]
                  exact p'
end
section
variable {X : Cx} {W : WX} {tg iter elt : Expr} {ifs : List Expr} {scope : Scope} {own : List (Str × Nat)} {pos : Pos} {mi : M (List Val)} {gt : T → M Unit} {ct : M Bool} {el : M T}
theorem s_comp (hc : X.calm = true) (hN : X.N.Nodup) (hi : SI X W tg iter mi) (ok : BlkOk X.N X.env.scope scope own)
    (hg : ∀ (s : Shared) (H : Hp) (C : Addr) (cl : List (Str × Addr)) (fp : List Addr), SG (X.blk s H scope (compEnvC scope cl C X.env) fp) W0 (inF (own.map (·.2))) tg gt) (ht : ∀ (s : Shared) (H : Hp) (C : Addr) (cl : List (Str × Addr)) (fp : List Addr), sTs (X.blk s H scope (compEnvC scope cl C X.env) fp) W0 ifs ct)
    (he : ∀ (s : Shared) (H : Hp) (C : Addr) (cl : List (Str × Addr)) (fp : List Addr), SE (X.blk s H scope (compEnvC scope cl C X.env) fp) W0 elt el) (hs : ∀ x, foldedSetIterable iter X.env x = pure x := by intro _; rfl) :
    SE X W (.ListComp elt [⟨tg, iter, ifs, 0⟩] scope pos) (mComp (own.map (·.2)) mi gt ct el) := (pe_lc hc hN hi.ex ok hg ht he hs).im fun σ H Q h => comp_ok h
/-- y = [..]: y's slot i -/
theorem k_setComp {i : Nat} {y : Str} {py : Pos} {spos : Pos} (hc : X.calm = true) (hN : X.N.Nodup) (hi : SI X W tg iter mi) (ok : BlkOk X.N X.env.scope scope own)
    (hg : ∀ (s : Shared) (H : Hp) (C : Addr) (cl : List (Str × Addr)) (fp : List Addr), SG (X.blk s H scope (compEnvC scope cl C X.env) fp) W0 (inF (own.map (·.2))) tg gt) (ht : ∀ (s : Shared) (H : Hp) (C : Addr) (cl : List (Str × Addr)) (fp : List Addr), sTs (X.blk s H scope (compEnvC scope cl C X.env) fp) W0 ifs ct)
    (he : ∀ (s : Shared) (H : Hp) (C : Addr) (cl : List (Str × Addr)) (fp : List Addr), SE (X.blk s H scope (compEnvC scope cl C X.env) fp) W0 elt el)
    (hsw : swapsWith (.ListComp elt [⟨tg, iter, ifs, 0⟩] scope pos) (some (.Name y py)) spos.line X.env = pure true) (hy : X.N[i]? = some y := by rfl) (hyl : X.env.scope.names.lookup y = some .local := by rfl) (hs : ∀ x, foldedSetIterable iter X.env x = pure x := by intro _; rfl) :
    SS X W (.Assign [.Name y py] (.ListComp elt [⟨tg, iter, ifs, 0⟩] scope pos) spos) (mAsg (mComp (own.map (·.2)) mi gt ct el) (mGN i)) :=
  (ps_setLc hc hN hy hyl hsw hi.ex ok hg ht he hs).im fun D σ H ⟨g, st, r, p⟩ => by
    have h : sE X.K X.mg W (mComp (own.map (·.2)) mi gt ct el) σ H (fun w H1 => gName i w σ H1 D.nx) := ⟨g, st, r, SPst.bind Ext.refl p fun g2 w H2 t st2 e2 _ r2 q2 p2 => gn_ok (F := fAll) rfl e2 r2 q2 p2.gp⟩
    exact comp_ok h
end
end Sm

namespace Sm
open PySem L2
theorem OpR_or {X : Cx} {f : Value → Value → Sem Value} {r r' : R2} (a : OpR X f r) (b : OpR X f r') : OpR X f (fun x y H Q => r x y H Q ∨ r' x y H Q) := fun pins s σ H x y v u Q I rx ry h => h.elim (a pins s σ H x y v u Q I rx ry) (b pins s σ H x y v u Q I rx ry)
theorem CallR_or {X : Cx} {f : Value} {r r' : List V → Hp → VK → Prop} (a : CallR X f r) (b : CallR X f r') : CallR X f (fun xs H Q => r xs H Q ∨ r' xs H Q) := fun pins s σ H xs us Q I rx h => h.elim (a pins s σ H xs us Q I rx) (b pins s σ H xs us Q I rx)
theorem MtR_or {X : Cx} {f : String} {r r' : V → List V → Hp → VK → Prop} (a : MtR X f r) (b : MtR X f r') : MtR X f (fun x xs H Q => r x xs H Q ∨ r' x xs H Q) := fun pins s σ H x xs v us Q I rx rs h => h.elim (a pins s σ H x xs v us Q I rx rs) (b pins s σ H x xs v us Q I rx rs)
theorem SlR_or {X : Cx} {r r' : V → Option Int → Option Int → Hp → VK → Prop} (a : SlR X r) (b : SlR X r') : SlR X (fun x l u H Q => r x l u H Q ∨ r' x l u H Q) := fun pins s σ H x v vl vu lo hi sl Q I rx hs pl pu h => h.elim (a pins s σ H x v vl vu lo hi sl Q I rx hs pl pu) (b pins s σ H x v vl vu lo hi sl Q I rx hs pl pu)
section
variable {K : PySem.W.Frag} {g : G} {H H' : Hp} {w : V}
theorem vw_int {i : Int} (h : Vw K g H (.int i) w) : w = .int i := by unfold Vw VR at h; exact h
theorem vw_bl {i : Bool} (h : Vw K g H (.bl i) w) : w = .bl i := by unfold Vw VR at h; exact h
theorem vw_non (h : Vw K g H .non w) : w = .non := by unfold Vw VR at h; exact h
theorem vw_str {i : Str} (h : Vw K g H (.str i) w) : w = .str i := by unfold Vw VR at h; exact h
theorem vw_ty {i : String} (h : Vw K g H (.ty i) w) : w = .ty i := by unfold Vw VR at h; exact h
theorem vw_tup {vs : List Val} (h : Vw K g H (.tup vs) w) : ∃ a ws, w = .ref a ∧ SqT K H a ws ∧ VRs K g H vs ws := by unfold Vw VR at h; obtain ⟨a, ws, h1, h2, h3⟩ := h; exact ⟨a, ws, h1, SqT.of h2, h3⟩
theorem vw_tupS {vs : List Val} (h : Vw K g H (.tup vs) w) : ∃ a ws, w = .ref a ∧ H a = some (.tup ws) ∧ VRs K g H vs ws := by unfold Vw VR at h; exact h
theorem vw_ktup {vs : List Val} (h : Vw K g H (.ktup vs) w) : ∃ a ws, w = .ref a ∧ SqT K H a ws ∧ VRs K g H vs ws := by unfold Vw VR at h; obtain ⟨a, ws, h1, h2, h3⟩ := h; exact ⟨a, ws, h1, .inr h2, h3⟩
theorem vw_lst {vs : List Val} (h : Vw K g H (.lst vs) w) : ∃ a ws, w = .ref a ∧ H a = some (.lst ws) ∧ VRs K g H vs ws := h
theorem vw_scr {vs : List Val} (h : Vw K g H (.scr vs) w) : ∃ a ws, w = .ref a ∧ Stab K g H a ws ∧ VRs K g H vs ws := by unfold Vw VR at h; exact h
theorem vr_int {i : Int} : VR K g H (.int i) (.int i) := by unfold VR; rfl
theorem vr_bl {i : Bool} : VR K g H (.bl i) (.bl i) := by unfold VR; rfl
theorem vr_str {i : Str} : VR K g H (.str i) (.str i) := by unfold VR; rfl
theorem vr_non : VR K g H .non .non := by unfold VR; rfl
theorem rr_int {i : Int} : RR K g H H' (.val (.int i)) (.int i) := vr_int (K := K) (g := g) (H := H')
theorem rr_bl {i : Bool} : RR K g H H' (.val (.bl i)) (.bl i) := vr_bl (K := K) (g := g) (H := H')
theorem rr_str {i : Str} : RR K g H H' (.val (.str i)) (.str i) := vr_str (K := K) (g := g) (H := H')
theorem VRs.nil_inv {vs : List Val} (h : VRs K g H vs []) : vs = [] := List.length_eq_zero_iff.mp h.length
/-- a new tuple, a new list -/
theorem newTup {vs : List Val} {ws : List V} {a : Addr} (wf : Wf g H) (h : VRs K g H vs ws) (ha : H a = none) : RR K g H (upd H a (.tup ws)) (.val (.tup vs)) (.ref a) := by
  show VR _ _ _ _ _
  unfold VR
  exact ⟨a, ws, rfl, upd_same, VRs.ext wf (Add.upd ha).ext _ _ h⟩
theorem newLst {vs : List Val} {ws : List V} {a : Addr} (wf : Wf g H) (h : VRs K g H vs ws) (ha : H a = none) : RR K g H (upd H a (.lst ws)) (.own vs) (.ref a) :=
  ⟨a, ws, rfl, ha, upd_same, VRs.ext wf (Add.upd ha).ext _ _ h⟩
end
abbrev vI (i : Int) : Option T := some (.val (.int i))
abbrev vB (b : Bool) : Option T := some (.val (.bl b))
/-! ### + -/
def fAdd : Val → Val → Option T
  | .int i, .int j => vI (i + j)
  | .lst xs, .lst ys => if xs.length + ys.length ≤ 16777216 then some (.own (xs ++ ys)) else none
  | .tup xs, .tup ys => if xs.length + ys.length ≤ 16777216 then some (.val (.tup (xs ++ ys))) else none
  | .str a, .str b => if a.length + b.length ≤ 16777216 then some (.val (.str (a ++ b))) else none
  | _, _ => none
abbrev rPlus (K : PySem.W.Frag) : R2 := fun x y H Q => (∃ i j, x = .int i ∧ y = .int j ∧ Q (.int (i + j)) H) ∨ (rCat x y H Q ∨ (rCatA K x y H Q ∨ (∃ i j, x = .str i ∧ y = .str j ∧ i.length + j.length ≤ sizeLine ∧ Q (.str (i ++ j)) H)))
theorem o_add {X : Cx} : OpR X (binaryOp .Add) (rPlus X.K) := OpR_or op_add (OpR_or op_cat (OpR_or op_catA op_add_str))
theorem szL {n : Nat} (h : n ≤ 16777216) : n ≤ sizeLine := by rw [sizeLine_eq]; exact h
theorem p_add {K : PySem.W.Frag} : P2 K (rPlus K) fAdd := by
  intro g H v1 v2 w1 w2 t Q wf h1 h2 e q
  unfold fAdd at e
  split at e
  · cases e
    rw [vw_int h1, vw_int h2]
    exact .inl ⟨_, _, rfl, rfl, q _ _ .refl rr_int⟩
  · split at e
    · rename_i hz
      cases e
      obtain ⟨a, ws, rfl, k1, k2⟩ := vw_lst h1
      obtain ⟨b, us, rfl, k3, k4⟩ := vw_lst h2
      exact .inr (.inl ⟨a, b, ws, us, rfl, rfl, k1, k3, szL (by rw [← k2.length, ← k4.length]; exact hz), fun p hp => q _ _ (Add.upd hp) (newLst wf (VRs.app k2 k4) hp)⟩)
    · cases e
  · split at e
    · rename_i hz
      cases e
      obtain ⟨a, ws, rfl, k1, k2⟩ := vw_tup h1
      obtain ⟨b, us, rfl, k3, k4⟩ := vw_tup h2
      refine .inr (.inr (.inl ⟨a, b, ws, us, rfl, rfl, k1, k3, szL (by rw [← k2.length, ← k4.length]; exact hz), fun z => ?_, fun _ z => ?_, fun _ _ p hp => q _ _ (Add.upd hp) (newTup wf (VRs.app k2 k4) hp)⟩))
      · subst z
        cases k2.nil_inv
        exact q _ _ .refl h2
      · subst z
        cases k4.nil_inv
        rw [List.append_nil] at q
        exact q _ _ .refl h1
    · cases e
  · split at e
    · rename_i hz
      cases e
      rw [vw_str h1, vw_str h2]
      exact .inr (.inr (.inr ⟨_, _, rfl, rfl, szL hz, q _ _ .refl rr_str⟩))
    · cases e
  · cases e
/-! ### other operators of ints -/
def fI2 (f : Int → Int → Int) : Val → Val → Option T
  | .int i, .int j => vI (f i j)
  | _, _ => none
def fI2C (C : Int → Int → Bool) (f : Int → Int → Int) : Val → Val → Option T
  | .int i, .int j => if C i j = true then vI (f i j) else none
  | _, _ => none
theorem p_I0 {K : PySem.W.Frag} {f : Int → Int → Int} : P2 K (rI0 fun i j => .int (f i j)) (fI2 f) := by
  intro g H v1 v2 w1 w2 t Q wf h1 h2 e q
  unfold fI2 at e
  split at e
  · cases e
    rw [vw_int h1, vw_int h2]
    exact ⟨_, _, rfl, rfl, q _ _ .refl rr_int⟩
  · cases e
theorem p_IC {K : PySem.W.Frag} {f : Int → Int → Int} {C : Int → Int → Bool} {P : Int → Int → Prop} (hC : ∀ i j, C i j = true → P i j) : P2 K (rI P fun i j => .int (f i j)) (fI2C C f) := by
  intro g H v1 v2 w1 w2 t Q wf h1 h2 e q
  unfold fI2C at e
  split at e
  · split at e
    · rename_i hz
      cases e
      rw [vw_int h1, vw_int h2]
      exact ⟨_, _, rfl, rfl, hC _ _ hz, q _ _ .refl rr_int⟩
    · cases e
  · cases e
abbrev fSub : Val → Val → Option T := fI2 fun i j => i - j
theorem p_sub {K : PySem.W.Frag} : P2 K (rI0 fun i j => .int (i - j)) fSub := p_I0
/-- * : ints, or a list times an int -/
def fMul : Val → Val → Option T
  | .int i, .int j => if (-(2 ^ 64) < i ∧ i < 2 ^ 64) ∨ (-(2 ^ 64) < j ∧ j < 2 ^ 64) then vI (i * j) else none
  | .lst xs, .int k => if -(2 ^ 63) ≤ k ∧ k < 2 ^ 63 ∧ xs.length * k.toNat ≤ 16777216 then some (.own (List.replicate k.toNat xs).flatten) else none
  | _, _ => none
abbrev rTimes : R2 := fun x y H Q => rI CMul (fun i j => .int (i * j)) x y H Q ∨ rRep x y H Q
theorem o_mul {X : Cx} : OpR X (binaryOp .Mult) rTimes := OpR_or op_mul op_rep
theorem VRs.flat {K : PySem.W.Frag} {g : G} {H : Hp} {vs : List Val} {ws : List V} (h : VRs K g H vs ws) : ∀ n : Nat, VRs K g H (List.replicate n vs).flatten (List.replicate n ws).flatten
  | 0 => VRs.nil
  | n + 1 => by rw [List.replicate_succ, List.replicate_succ, List.flatten_cons, List.flatten_cons]; exact VRs.app h (VRs.flat h n)
theorem p_mul {K : PySem.W.Frag} : P2 K rTimes fMul := by
  intro g H v1 v2 w1 w2 t Q wf h1 h2 e q
  unfold fMul at e
  split at e
  · split at e
    · rename_i hz
      cases e
      rw [vw_int h1, vw_int h2]
      exact .inl ⟨_, _, rfl, rfl, hz, q _ _ .refl rr_int⟩
    · cases e
  · split at e
    · rename_i hz
      cases e
      rw [vw_int h2]
      obtain ⟨a, ws, rfl, k1, k2⟩ := vw_lst h1
      exact .inr ⟨a, _, ws, rfl, rfl, k1, hz.1, hz.2.1, szL (by rw [← k2.length]; exact hz.2.2), fun p hp => q _ _ (Add.upd hp) (newLst wf (VRs.flat k2 _) hp)⟩
    · cases e
  · cases e
abbrev cDiv (i j : Int) : Bool := j != 0 && decide (j.natAbs < 1073741824)
abbrev fDiv : Val → Val → Option T := fI2C cDiv fun i j => i.fdiv j
theorem p_div {K : PySem.W.Frag} : P2 K (rI CDivN fun i j => .int (i.fdiv j)) fDiv := p_IC fun i j h => by
  unfold cDiv at h
  simp only [Bool.and_eq_true, bne_iff_ne, ne_eq, decide_eq_true_eq] at h
  exact h
abbrev fMod : Val → Val → Option T := fI2C (fun _ j => j != 0) fun i j => i.fmod j
theorem p_mod {K : PySem.W.Frag} : P2 K (rI (fun _ j => j ≠ 0) fun i j => .int (i.fmod j)) fMod := p_IC fun i j h => by simpa using h
abbrev cPow (i j : Int) : Bool := decide (0 ≤ j ∧ j ≤ 1000000 ∧ i.natAbs < 2 ^ 64)
abbrev fPow : Val → Val → Option T := fI2C cPow fun i j => i ^ j.toNat
theorem p_pow {K : PySem.W.Frag} : P2 K (rI CPow fun i j => .int (i ^ j.toNat)) fPow := p_IC fun i j h => show 0 ≤ j ∧ j ≤ 1000000 ∧ i.natAbs < 2 ^ 64 from of_decide_eq_true h
def fNeg : Val → Option T
  | .int i => vI (-i)
  | _ => none
theorem p_neg {K : PySem.W.Frag} : P1 K (rU fun i => .int (-i)) fNeg := by
  intro g H v w t Q wf h e q
  unfold fNeg at e
  split at e
  · cases e
    rw [vw_int h]
    exact ⟨_, rfl, q _ _ .refl rr_int⟩
  · cases e
/-! ### order -/
def fC (p : Int → Int → Bool) : Val → Val → Option T
  | .int i, .int j => vB (p i j)
  | _, _ => none
theorem p_C {K : PySem.W.Frag} {p : Int → Int → Bool} : P2 K (rI0 fun i j => .bl (p i j)) (fC p) := by
  intro g H v1 v2 w1 w2 t Q wf h1 h2 e q
  unfold fC at e
  split at e
  · cases e
    rw [vw_int h1, vw_int h2]
    exact ⟨_, _, rfl, rfl, q _ _ .refl rr_bl⟩
  · cases e
abbrev fLt : Val → Val → Option T := fC fun i j => decide (i < j)
abbrev fLe : Val → Val → Option T := fC fun i j => decide (i ≤ j)
abbrev fGt : Val → Val → Option T := fC fun i j => decide (j < i)
abbrev fGe : Val → Val → Option T := fC fun i j => decide (j ≤ i)
theorem p_lt {K : PySem.W.Frag} : P2 K (rI0 fun i j => .bl (decide (i < j))) fLt := p_C
theorem p_le {K : PySem.W.Frag} : P2 K (rI0 fun i j => .bl (decide (i ≤ j))) fLe := p_C
theorem p_gt {K : PySem.W.Frag} : P2 K (rI0 fun i j => .bl (decide (j < i))) fGt := p_C
theorem p_ge {K : PySem.W.Frag} : P2 K (rI0 fun i j => .bl (decide (j ≤ i))) fGe := p_C
/-! ### data: ==, in -/
mutual
def toD : Val → PyData
  | .non => .none
  | .bl b => .bool b
  | .int i => .int i
  | .str s => .str s
  | .tup vs => .tuple (toDs vs)
  | .lst vs => .list (toDs vs)
  | _ => .none
def toDs : List Val → List PyData
  | [] => []
  | v :: vs => toD v :: toDs vs
end
mutual
/-- plain data of at most that depth -/
def dat : Nat → Val → Bool
  | _, .non => true
  | _, .bl _ => true
  | _, .int _ => true
  | _, .str s => PyData.canLay0 (.str s)
  | n, .tup vs => match n with
    | 0 => false
    | n + 1 => dats n vs
  | n, .lst vs => match n with
    | 0 => false
    | n + 1 => dats n vs
  | _, _ => false
def dats : Nat → List Val → Bool
  | _, [] => true
  | n, v :: vs => dat n v && dats n vs
end
def vEq (v u : Val) : Bool := PyData.eqv (toD v) (toD u)
section
variable {K : PySem.W.Frag} {g : G} {H : Hp}
mutual
theorem dat_lay : ∀ (n : Nat) (v : Val), dat n v = true → (toD v).canLay0 = true ∧ (toD v).depth ≤ n
  | _, .non, _ => ⟨rfl, Nat.zero_le _⟩
  | _, .bl _, _ => ⟨rfl, Nat.zero_le _⟩
  | _, .int _, _ => ⟨rfl, Nat.zero_le _⟩
  | _, .str s, h => by
    unfold dat at h
    exact ⟨by unfold toD; exact h, by unfold toD PyData.depth; exact Nat.zero_le _⟩
  | 0, .tup vs, h => by unfold dat at h; cases h
  | n + 1, .tup vs, h => by
    unfold dat at h
    obtain ⟨h1, h2⟩ := dats_lay n vs h
    exact ⟨by unfold toD PyData.canLay0; exact h1, by unfold toD PyData.depth; omega⟩
  | 0, .lst vs, h => by unfold dat at h; cases h
  | n + 1, .lst vs, h => by
    unfold dat at h
    obtain ⟨h1, h2⟩ := dats_lay n vs h
    exact ⟨by unfold toD PyData.canLay0; exact h1, by unfold toD PyData.depth; omega⟩
  | n, .scr _, h => by unfold dat at h; cases h
  | n, .ref _, h => by unfold dat at h; cases h
  | n, .ty _, h => by unfold dat at h; cases h
  | n, .adr _ _ _ _, h => by unfold dat at h; cases h
  | n, .lam _, h => by unfold dat at h; cases h
  | n, .ktup _, h => by unfold dat at h; cases h
theorem dats_lay : ∀ (n : Nat) (vs : List Val), dats n vs = true → PyData.canLayAll0 (toDs vs) = true ∧ PyData.depthAll (toDs vs) ≤ n
  | _, [], _ => ⟨rfl, Nat.zero_le _⟩
  | n, v :: vs, h => by
    unfold dats at h
    rw [Bool.and_eq_true] at h
    obtain ⟨h1, h2⟩ := dat_lay n v h.1
    obtain ⟨h3, h4⟩ := dats_lay n vs h.2
    exact ⟨by unfold toDs PyData.canLayAll0; rw [h1, h3]; rfl, by unfold toDs PyData.depthAll; omega⟩
end
mutual
theorem dat_dp : ∀ (n : Nat) (v : Val) (w : V), dat n v = true → VR K g H v w → Dp K H w (toD v)
  | _, .non, w, _, h => by unfold VR at h; subst h; exact .non
  | _, .bl _, w, _, h => by unfold VR at h; subst h; exact .bl _
  | _, .int _, w, _, h => by unfold VR at h; subst h; exact .int _
  | _, .str s, w, _, h => by unfold VR at h; subst h; exact .str _
  | 0, .tup vs, w, e, h => by unfold dat at e; cases e
  | n + 1, .tup vs, w, e, h => by
    unfold dat at e
    unfold VR at h
    obtain ⟨a, ws, rfl, h2, h3⟩ := h
    exact .tup (SqT.of h2) (dats_dp n vs ws e h3)
  | 0, .lst vs, w, e, h => by unfold dat at e; cases e
  | n + 1, .lst vs, w, e, h => by
    unfold dat at e
    unfold VR at h
    obtain ⟨a, ws, rfl, _, h2, h3⟩ := h
    exact .lst (SqL.of h2) (dats_dp n vs ws e h3)
  | n, .scr _, w, e, h => by unfold dat at e; cases e
  | n, .ref _, w, e, h => by unfold dat at e; cases e
  | n, .ty _, w, e, h => by unfold dat at e; cases e
  | n, .adr _ _ _ _, w, e, h => by unfold dat at e; cases e
  | n, .lam _, w, e, h => by unfold dat at e; cases e
  | n, .ktup _, w, e, h => by unfold dat at e; cases e
theorem dats_dp : ∀ (n : Nat) (vs : List Val) (ws : List V), dats n vs = true → VRs K g H vs ws → DpAll K H ws (toDs vs)
  | _, [], ws, _, h => by unfold VRs at h; subst h; exact .nil
  | n, v :: vs, ws, e, h => by
    unfold dats at e
    rw [Bool.and_eq_true] at e
    unfold VRs at h
    obtain ⟨w, r, rfl, h1, h2⟩ := h
    exact .cons (dat_dp n v w e.1 h1) (dats_dp n vs r e.2 h2)
end
theorem dat_dpV {n : Nat} {v : Val} {w : V} (e : dat n v = true) (h : Vw K g H v w) : Dp K H w (toD v) := by
  cases v with
  | lst vs =>
    cases n with
    | zero => unfold dat at e; cases e
    | succ n =>
      unfold dat at e
      obtain ⟨a, ws, rfl, h2, h3⟩ := h
      exact .lst (SqL.of h2) (dats_dp n vs ws e h3)
  | _ => exact dat_dp (g := g) n _ w e h
theorem dat_shaped {v : Val} (e : dat 64 v = true) : SeqAt.shaped (toD v) = true := by
  obtain ⟨h1, h2⟩ := dat_lay 64 v e
  unfold SeqAt.shaped
  rw [h1, decide_eq_true h2]
  rfl
end
def fEq (v u : Val) : Option T := if dat 64 v = true ∧ dat 64 u = true then vB (vEq v u) else none
def fNe (v u : Val) : Option T := if dat 64 v = true ∧ dat 64 u = true then vB (!vEq v u) else none
theorem p_eq {K : PySem.W.Frag} : P2 K (rEqD K) fEq := by
  intro g H v1 v2 w1 w2 t Q wf h1 h2 e q
  unfold fEq at e
  split at e
  · rename_i hz
    cases e
    exact ⟨_, _, dat_dpV hz.1 h1, dat_dpV hz.2 h2, dat_shaped hz.1, dat_shaped hz.2, q _ _ .refl rr_bl⟩
  · cases e
theorem p_ne {K : PySem.W.Frag} : P2 K (rNeD K) fNe := by
  intro g H v1 v2 w1 w2 t Q wf h1 h2 e q
  unfold fNe at e
  split at e
  · rename_i hz
    cases e
    exact ⟨_, _, dat_dpV hz.1 h1, dat_dpV hz.2 h2, dat_shaped hz.1, dat_shaped hz.2, q _ _ .refl rr_bl⟩
  · cases e
def isNon : Val → Bool
  | .non => true
  | _ => false
theorem isNon_ok {K : PySem.W.Frag} {g : G} {H : Hp} {v : Val} {w : V} (h : Vw K g H v w) : decide (w = .non) = isNon v := by
  cases v with
  | non => rw [vw_non h]; rfl
  | bl b => rw [vw_bl h]; rfl
  | int b => rw [vw_int h]; rfl
  | str b => rw [vw_str h]; rfl
  | ty b => rw [vw_ty h]; rfl
  | tup vs => obtain ⟨a, ws, rfl, _⟩ := vw_tup h; rfl
  | lst vs => obtain ⟨a, ws, rfl, _⟩ := vw_lst h; rfl
  | scr vs => obtain ⟨a, ws, rfl, _⟩ := vw_scr h; rfl
  | ktup vs => obtain ⟨a, ws, rfl, _⟩ := vw_ktup h; rfl
  | ref n => unfold Vw VR at h; obtain ⟨a, _, rfl⟩ := h; rfl
  | adr n => unfold Vw VR at h; rw [h.1]; rfl
  | lam l => unfold Vw VR at h; obtain ⟨a, rfl, _⟩ := h; rfl
def fIsN (v u : Val) : Option T := match u with
  | .non => vB (isNon v)
  | _ => none
def fNotN (v u : Val) : Option T := match u with
  | .non => vB (!isNon v)
  | _ => none
theorem p_isN {K : PySem.W.Frag} : P2 K (fun x y H Q => y = .non ∧ Q (.bl (decide (x = .non))) H) fIsN := by
  intro g H v1 v2 w1 w2 t Q wf h1 h2 e q
  unfold fIsN at e
  split at e
  · cases e
    refine ⟨vw_non h2, ?_⟩
    rw [isNon_ok h1]
    exact q _ _ .refl rr_bl
  · cases e
theorem p_notN {K : PySem.W.Frag} : P2 K (fun x y H Q => y = .non ∧ Q (.bl (!decide (x = .non))) H) fNotN := by
  intro g H v1 v2 w1 w2 t Q wf h1 h2 e q
  unfold fNotN at e
  split at e
  · cases e
    refine ⟨vw_non h2, ?_⟩
    rw [isNon_ok h1]
    exact q _ _ .refl rr_bl
  · cases e
/-! ### items, lengths -/
def fIx : Val → Val → Option T
  | .lst vs, .int i => (atI vs i).map .val
  | .tup vs, .int i => (atI vs i).map .val
  | .str z, .int i => if z.length ≤ 16777216 then (atI z.cps.toList i).map fun c => .val (.str ⟨#[c]⟩) else none
  | _, _ => none
theorem VRs.atI {K : PySem.W.Frag} {g : G} {H : Hp} {vs : List Val} {ws : List V} {i : Int} {v : Val} (h : VRs K g H vs ws) (e : L2.atI vs i = some v) : ∃ w, L2.atI ws i = some w ∧ VR K g H v w := by
  unfold L2.atI at e ⊢
  rw [← h.length]
  cases q : ixN vs.length i with
  | none => rw [q] at e; cases e
  | some j => rw [q] at e; exact h.get e
theorem p_ix {K : PySem.W.Frag} : P2 K (rIx K) fIx := by
  intro g H v1 v2 w1 w2 t Q wf h1 h2 e q
  unfold fIx at e
  split at e
  · rw [Option.map_eq_some_iff] at e
    obtain ⟨v, e1, rfl⟩ := e
    obtain ⟨a, ws, rfl, k1, k2⟩ := vw_lst h1
    obtain ⟨w, k3, k4⟩ := k2.atI e1
    exact .inl ⟨a, ws, _, w, rfl, vw_int h2, SqL.of k1, k3, q _ _ .refl k4⟩
  · rw [Option.map_eq_some_iff] at e
    obtain ⟨v, e1, rfl⟩ := e
    obtain ⟨a, ws, rfl, k1, k2⟩ := vw_tup h1
    obtain ⟨w, k3, k4⟩ := k2.atI e1
    exact .inr (.inl ⟨a, ws, _, w, rfl, vw_int h2, k1, k3, q _ _ .refl k4⟩)
  · split at e
    · rename_i hz
      rw [Option.map_eq_some_iff] at e
      obtain ⟨v, e1, rfl⟩ := e
      exact .inr (.inr ⟨_, _, v, vw_str h1, vw_int h2, szL hz, e1, q _ _ .refl rr_str⟩)
    · cases e
  · cases e
def fLen : List Val → Option T
  | [.lst vs] => vI vs.length
  | [.tup vs] => vI vs.length
  | [.scr vs] => vI vs.length
  | [.str z] => if z.length ≤ 16777216 then vI z.length else none
  | _ => none
theorem p_len {K : PySem.W.Frag} : PC K (fun xs H Q => ∃ x n, xs = [x] ∧ LenV K x H n ∧ Q (.int n) H) fLen := by
  intro g H vs ws t Q wf h e q
  unfold fLen at e
  split at e
  · cases e
    cases h with | cons h1 h2 => ?_
    cases h2
    obtain ⟨a, us, rfl, k1, k2⟩ := vw_lst h1
    exact ⟨_, _, rfl, .inl ⟨us, SqL.of k1, k2.length⟩, q _ _ .refl rr_int⟩
  · cases e
    cases h with | cons h1 h2 => ?_
    cases h2
    obtain ⟨a, us, rfl, k1, k2⟩ := vw_tup h1
    exact ⟨_, _, rfl, .inr ⟨us, k1, k2.length⟩, q _ _ .refl rr_int⟩
  · cases e
    cases h with | cons h1 h2 => ?_
    cases h2
    obtain ⟨a, us, rfl, k1, k2⟩ := vw_scr h1
    exact ⟨_, _, rfl, .inl ⟨us, k1.sq, k2.length⟩, q _ _ .refl rr_int⟩
  · split at e
    · rename_i hz
      cases e
      cases h with | cons h1 h2 => ?_
      cases h2
      cases vw_str h1
      exact ⟨_, _, rfl, ⟨szL hz, rfl⟩, q _ _ .refl rr_int⟩
    · cases e
  · cases e
/-! ### list(), tuple() -/
def fList : List Val → Option T
  | [.lst vs] => some (.own vs)
  | [.tup vs] => some (.own vs)
  | [.scr vs] => some (.own vs)
  | _ => none
theorem p_list {K : PySem.W.Frag} : PC K (fun xs H Q => ∃ p ys, xs = [.ref p] ∧ (SqL K H p ys ∨ SqT K H p ys) ∧ ∀ l, H l = none → Q (.ref l) (upd H l (.lst ys))) fList := by
  intro g H vs ws t Q wf h e q
  unfold fList at e
  split at e
  · cases e
    cases h with | cons h1 h2 => ?_
    cases h2
    obtain ⟨a, us, rfl, k1, k2⟩ := vw_lst h1
    exact ⟨a, us, rfl, .inl (SqL.of k1), fun p hp => q _ _ (Add.upd hp) (newLst wf k2 hp)⟩
  · cases e
    cases h with | cons h1 h2 => ?_
    cases h2
    obtain ⟨a, us, rfl, k1, k2⟩ := vw_tup h1
    exact ⟨a, us, rfl, .inr k1, fun p hp => q _ _ (Add.upd hp) (newLst wf k2 hp)⟩
  · cases e
    cases h with | cons h1 h2 => ?_
    cases h2
    obtain ⟨a, us, rfl, k1, k2⟩ := vw_scr h1
    exact ⟨a, us, rfl, .inl k1.sq, fun p hp => q _ _ (Add.upd hp) (newLst wf k2 hp)⟩
  · cases e
def fTuple : List Val → Option T
  | [.lst vs] => some (.val (.tup vs))
  | [.tup vs] => some (.val (.tup vs))
  | _ => none
theorem p_tuple {K : PySem.W.Frag} : PC K (fun xs H Q => ∃ p ys, xs = [.ref p] ∧ ((SqL K H p ys ∧ ∀ l, H l = none → Q (.ref l) (upd H l (.tup ys))) ∨ (SqT K H p ys ∧ Q (.ref p) H))) fTuple := by
  intro g H vs ws t Q wf h e q
  unfold fTuple at e
  split at e
  · cases e
    cases h with | cons h1 h2 => ?_
    cases h2
    obtain ⟨a, us, rfl, k1, k2⟩ := vw_lst h1
    exact ⟨a, us, rfl, .inl ⟨SqL.of k1, fun p hp => q _ _ (Add.upd hp) (newTup wf k2 hp)⟩⟩
  · cases e
    cases h with | cons h1 h2 => ?_
    cases h2
    obtain ⟨a, us, rfl, k1, k2⟩ := vw_tup h1
    exact ⟨a, us, rfl, .inr ⟨k1, q _ _ .refl h1⟩⟩
  · cases e
/-! ### max, min, sum -/
def fMax2 : List Val → Option T
  | [.int i, .int j] => vI (if j > i then j else i)
  | _ => none
theorem p_max2 {K : PySem.W.Frag} : PC K (fun xs H Q => ∃ i j, xs = [.int i, .int j] ∧ Q (.int (if j > i then j else i)) H) fMax2 := by
  intro g H vs ws t Q wf h e q
  unfold fMax2 at e
  split at e
  · cases e
    cases h with | cons h1 h2 => ?_
    cases h2 with | cons h2 h3 => ?_
    cases h3
    rw [vw_int h1, vw_int h2]
    exact ⟨_, _, rfl, q _ _ .refl rr_int⟩
  · cases e
def fMin2 : List Val → Option T
  | [.int i, .int j] => vI (if j < i then j else i)
  | _ => none
theorem p_min2 {K : PySem.W.Frag} : PC K (fun xs H Q => ∃ i j, xs = [.int i, .int j] ∧ Q (.int (if j < i then j else i)) H) fMin2 := by
  intro g H vs ws t Q wf h e q
  unfold fMin2 at e
  split at e
  · cases e
    cases h with | cons h1 h2 => ?_
    cases h2 with | cons h2 h3 => ?_
    cases h3
    rw [vw_int h1, vw_int h2]
    exact ⟨_, _, rfl, q _ _ .refl rr_int⟩
  · cases e
/-- a list's ints -/
def intsOf : List Val → Option (List Int)
  | [] => some []
  | .int i :: vs => (intsOf vs).map (i :: ·)
  | _ => none
theorem intsOf_ok {K : PySem.W.Frag} {g : G} {H : Hp} : ∀ {vs : List Val} {ws : List V} {ns : List Int}, VRs K g H vs ws → intsOf vs = some ns → ws = ns.map V.int
  | [], ws, ns, h, e => by unfold VRs at h; subst h; cases e; rfl
  | v :: vs, ws, ns, h, e => by
    unfold VRs at h
    obtain ⟨w, r, rfl, h1, h2⟩ := h
    cases v with
    | int i =>
      unfold intsOf at e
      rw [Option.map_eq_some_iff] at e
      obtain ⟨ms, e1, rfl⟩ := e
      unfold VR at h1
      rw [h1, intsOf_ok h2 e1]
      rfl
    | _ => cases e
def fSum : List Val → Option T
  | [.lst vs] => (intsOf vs).map fun ns => .val (.int ns.sum)
  | _ => none
theorem p_sum {K : PySem.W.Frag} : PC K (rSum K) fSum := by
  intro g H vs ws t Q wf h e q
  unfold fSum at e
  split at e
  · rw [Option.map_eq_some_iff] at e
    obtain ⟨ns, e1, rfl⟩ := e
    cases h with | cons h1 h2 => ?_
    cases h2
    obtain ⟨a, us, rfl, k1, k2⟩ := vw_lst h1
    cases intsOf_ok k2 e1
    exact ⟨a, ns, rfl, SqL.of k1, q _ _ .refl rr_int⟩
  · cases e
def maxI : List Int → Option Int
  | [] => none
  | x :: xs => some (xs.foldl max x)
def minI : List Int → Option Int
  | [] => none
  | x :: xs => some (xs.foldl min x)
theorem foldl_max {x : Int} : ∀ {xs : List Int}, (xs.foldl max x ∈ x :: xs) ∧ ∀ y ∈ x :: xs, y ≤ xs.foldl max x
  | [] => ⟨List.mem_cons_self, fun y h => by simp at h; rw [h]; exact Int.le_refl _⟩
  | z :: xs => by
    obtain ⟨h1, h2⟩ := foldl_max (x := max x z) (xs := xs)
    refine ⟨?_, fun y hy => ?_⟩
    · rcases List.mem_cons.mp h1 with h | h
      · show xs.foldl max (max x z) ∈ _
        rw [h]
        rcases Int.le_total x z with q | q
        · rw [Int.max_eq_right q]; simp
        · rw [Int.max_eq_left q]; simp
      · exact List.mem_cons_of_mem _ (List.mem_cons_of_mem _ h)
    · show y ≤ xs.foldl max (max x z)
      have hm := h2 (max x z) List.mem_cons_self
      rcases List.mem_cons.mp hy with h | h
      · rw [h]; exact Int.le_trans (Int.le_max_left _ _) hm
      · rcases List.mem_cons.mp h with h | h
        · rw [h]; exact Int.le_trans (Int.le_max_right _ _) hm
        · exact h2 y (List.mem_cons_of_mem _ h)
theorem foldl_min {x : Int} : ∀ {xs : List Int}, (xs.foldl min x ∈ x :: xs) ∧ ∀ y ∈ x :: xs, xs.foldl min x ≤ y
  | [] => ⟨List.mem_cons_self, fun y h => by simp at h; rw [h]; exact Int.le_refl _⟩
  | z :: xs => by
    obtain ⟨h1, h2⟩ := foldl_min (x := min x z) (xs := xs)
    refine ⟨?_, fun y hy => ?_⟩
    · rcases List.mem_cons.mp h1 with h | h
      · show xs.foldl min (min x z) ∈ _
        rw [h]
        rcases Int.le_total x z with q | q
        · rw [Int.min_eq_left q]; simp
        · rw [Int.min_eq_right q]; simp
      · exact List.mem_cons_of_mem _ (List.mem_cons_of_mem _ h)
    · show xs.foldl min (min x z) ≤ y
      have hm := h2 (min x z) List.mem_cons_self
      rcases List.mem_cons.mp hy with h | h
      · rw [h]; exact Int.le_trans hm (Int.min_le_left _ _)
      · rcases List.mem_cons.mp h with h | h
        · rw [h]; exact Int.le_trans hm (Int.min_le_right _ _)
        · exact h2 y (List.mem_cons_of_mem _ h)
theorem max_uniq {ns : List Int} {m m' : Int} (h : maxI ns = some m) (h1 : m' ∈ ns) (h2 : ∀ y, y ∈ ns → y ≤ m') : m' = m := by
  cases ns with
  | nil => cases h
  | cons x xs =>
    cases h
    obtain ⟨k1, k2⟩ := foldl_max (x := x) (xs := xs)
    exact Int.le_antisymm (k2 _ h1) (h2 _ k1)
theorem min_uniq {ns : List Int} {m m' : Int} (h : minI ns = some m) (h1 : m' ∈ ns) (h2 : ∀ y, y ∈ ns → m' ≤ y) : m' = m := by
  cases ns with
  | nil => cases h
  | cons x xs =>
    cases h
    obtain ⟨k1, k2⟩ := foldl_min (x := x) (xs := xs)
    exact Int.le_antisymm (h2 _ k1) (k2 _ h1)
def fMax1 : List Val → Option T
  | [.lst vs] => (intsOf vs).bind fun ns => (maxI ns).map fun m => .val (.int m)
  | _ => none
def fMin1 : List Val → Option T
  | [.lst vs] => (intsOf vs).bind fun ns => (minI ns).map fun m => .val (.int m)
  | _ => none
theorem p_max1 {K : PySem.W.Frag} : PC K (rMax K) fMax1 := by
  intro g H vs ws t Q wf h e q
  unfold fMax1 at e
  split at e
  · rw [Option.bind_eq_some_iff] at e
    obtain ⟨ns, e1, e⟩ := e
    rw [Option.map_eq_some_iff] at e
    obtain ⟨m, e2, rfl⟩ := e
    cases h with | cons h1 h2 => ?_
    cases h2
    obtain ⟨a, us, rfl, k1, k2⟩ := vw_lst h1
    cases intsOf_ok k2 e1
    refine ⟨a, ns, rfl, SqL.of k1, ?_, fun m' h1 h2 => ?_⟩
    · cases ns with
      | nil => cases e2
      | cons _ _ => exact Nat.succ_pos _
    · rw [max_uniq e2 h1 h2]; exact q _ _ .refl rr_int
  · cases e
theorem p_min1 {K : PySem.W.Frag} : PC K (rMin K) fMin1 := by
  intro g H vs ws t Q wf h e q
  unfold fMin1 at e
  split at e
  · rw [Option.bind_eq_some_iff] at e
    obtain ⟨ns, e1, e⟩ := e
    rw [Option.map_eq_some_iff] at e
    obtain ⟨m, e2, rfl⟩ := e
    cases h with | cons h1 h2 => ?_
    cases h2
    obtain ⟨a, us, rfl, k1, k2⟩ := vw_lst h1
    cases intsOf_ok k2 e1
    refine ⟨a, ns, rfl, SqL.of k1, ?_, fun m' h1 h2 => ?_⟩
    · cases ns with
      | nil => cases e2
      | cons _ _ => exact Nat.succ_pos _
    · rw [min_uniq e2 h1 h2]; exact q _ _ .refl rr_int
  · cases e
/-! ### in -/
def flatS : Val → Bool
  | .non => true
  | .bl _ => true
  | .int _ => true
  | .str _ => true
  | _ => false
theorem flatS_ok {K : PySem.W.Frag} {g : G} {H : Hp} {v : Val} {w : V} (h : VR K g H v w) (e : flatS v = true) : flatV w = true := by
  cases v with
  | non => unfold VR at h; rw [h]; rfl
  | bl _ => unfold VR at h; rw [h]; rfl
  | int _ => unfold VR at h; rw [h]; rfl
  | str _ => unfold VR at h; rw [h]; rfl
  | _ => cases e
def eqS : Val → Val → Bool
  | .non, .non => true
  | .bl a, .bl b => a == b
  | .bl a, .int b => (if a then 1 else 0) == b
  | .int a, .bl b => a == (if b then 1 else 0)
  | .int a, .int b => a == b
  | .str a, .str b => a == b
  | _, _ => false
theorem eqS_ok {K : PySem.W.Frag} {g : G} {H : Hp} {v u : Val} {w x : V} (h : VR K g H v w) (h' : VR K g H u x) (e : flatS v = true) (e' : flatS u = true) : eqV w x = eqS v u := by
  cases v <;> first
    | (cases e; done)
    | (cases u <;> first
      | (cases e'; done)
      | (unfold VR at h h'; rw [h, h']; rfl))
def inS (v : Val) (vs : List Val) : Bool := vs.any fun u => eqS u v
theorem inS_ok {K : PySem.W.Frag} {g : G} {H : Hp} {v : Val} {w : V} (h : VR K g H v w) (e : flatS v = true) : ∀ {vs : List Val} {ws : List V}, VRs K g H vs ws → vs.all flatS = true → inV w ws = inS v vs ∧ ws.all flatV = true
  | [], ws, hs, _ => by unfold VRs at hs; subst hs; exact ⟨rfl, rfl⟩
  | u :: vs, ws, hs, a => by
    unfold VRs at hs
    obtain ⟨x, r, rfl, h1, h2⟩ := hs
    rw [List.all_cons, Bool.and_eq_true] at a
    obtain ⟨i1, i2⟩ := inS_ok h e h2 a.2
    constructor
    · show (eqV x w || inV w r) = (eqS u v || inS v vs)
      rw [i1, eqS_ok h1 h a.1 e]
    · show (flatV x && r.all flatV) = true
      rw [i2, flatS_ok h1 a.1]; rfl
theorem vr_of_flat {K : PySem.W.Frag} {g : G} {H : Hp} {v : Val} {w : V} (h : Vw K g H v w) (e : flatS v = true) : VR K g H v w := by
  cases v with
  | lst _ => cases e
  | _ => exact h
def fInG (neg : Bool) (v u : Val) : Option T := match u with
  | .lst vs => if flatS v = true ∧ vs.all flatS = true then vB (if neg then !inS v vs else inS v vs) else none
  | .tup vs => if flatS v = true ∧ vs.all flatS = true then vB (if neg then !inS v vs else inS v vs) else none
  | .ktup vs => if flatS v = true ∧ vs.all flatS = true then vB (if neg then !inS v vs else inS v vs) else none
  | _ => none
theorem p_in {K : PySem.W.Frag} {neg : Bool} : P2 K (rIn K neg) (fInG neg) := by
  intro g H v1 v2 w1 w2 t Q wf h1 h2 e q
  unfold fInG at e
  split at e
  · split at e
    · rename_i hz
      cases e
      obtain ⟨a, ws, rfl, k1, k2⟩ := vw_lst h2
      have h1' := vr_of_flat h1 hz.1
      obtain ⟨i1, i2⟩ := inS_ok h1' hz.1 k2 hz.2
      exact ⟨a, ws, rfl, .inl (SqL.of k1), flatS_ok h1' hz.1, i2, by rw [i1]; exact q _ _ .refl rr_bl⟩
    · cases e
  · split at e
    · rename_i hz
      cases e
      obtain ⟨a, ws, rfl, k1, k2⟩ := vw_tup h2
      have h1' := vr_of_flat h1 hz.1
      obtain ⟨i1, i2⟩ := inS_ok h1' hz.1 k2 hz.2
      exact ⟨a, ws, rfl, .inr k1, flatS_ok h1' hz.1, i2, by rw [i1]; exact q _ _ .refl rr_bl⟩
    · cases e
  · split at e
    · rename_i hz
      cases e
      obtain ⟨a, ws, rfl, k1, k2⟩ := vw_ktup h2
      have h1' := vr_of_flat h1 hz.1
      obtain ⟨i1, i2⟩ := inS_ok h1' hz.1 k2 hz.2
      exact ⟨a, ws, rfl, .inr k1, flatS_ok h1' hz.1, i2, by rw [i1]; exact q _ _ .refl rr_bl⟩
    · cases e
  · cases e
abbrev fIn : Val → Val → Option T := fInG false
abbrev fNotIn : Val → Val → Option T := fInG true
end Sm

namespace Sm
open PySem L2
/-! ### methods that change a list -/
def chApp : List Val → List Val → Option (List Val × Val)
  | vs, [v] => if vs.length < 16777216 then some (vs ++ [v], .non) else none
  | _, _ => none
theorem p_app {K : PySem.W.Frag} : PCh K rAppend chApp := by
  intro g H l xs vs ws us v l' Q hl hv hu e q
  unfold chApp at e
  split at e
  · split at e
    · rename_i u hz
      cases e
      have hu' := hu
      unfold VRs at hu'
      obtain ⟨w, r, rfl, h1, h2⟩ := hu'
      unfold VRs at h2
      subst h2
      exact ⟨l, xs, w, rfl, rfl, hl, by rw [← hv.length, sizeLine_eq]; exact hz, q _ _ (VRs.app hv (VRs.cons h1 VRs.nil)) vr_non⟩
    · cases e
  · cases e
/-- xs.pop(i) -/
def chPopAt : List Val → List Val → Option (List Val × Val)
  | vs, [.int i] => if 0 ≤ i ∧ i < vs.length ∧ vs.length ≤ 16777216 then (vs[i.toNat]?).map fun v => (vs.eraseIdx i.toNat, v) else none
  | _, _ => none
theorem VRs.erase {K : PySem.W.Frag} {g : G} {H : Hp} : ∀ {vs : List Val} {ws : List V} (i : Nat), VRs K g H vs ws → VRs K g H (vs.eraseIdx i) (ws.eraseIdx i)
  | [], ws, i, h => by unfold VRs at h; subst h; exact VRs.nil
  | v :: vs, ws, 0, h => by
    unfold VRs at h
    obtain ⟨w, r, rfl, h1, h2⟩ := h
    exact h2
  | v :: vs, ws, i + 1, h => by
    unfold VRs at h
    obtain ⟨w, r, rfl, h1, h2⟩ := h
    exact VRs.cons h1 (VRs.erase i h2)
theorem p_popAt {K : PySem.W.Frag} : PCh K rPopAt chPopAt := by
  intro g H l xs vs ws us v l' Q hl hv hu e q
  unfold chPopAt at e
  split at e
  · split at e
    · rename_i i hz
      rw [Option.map_eq_some_iff] at e
      obtain ⟨y, e1, e2⟩ := e
      cases e2
      obtain ⟨w, h1, h2⟩ := hv.get e1
      have hu' := hu
      unfold VRs at hu'
      obtain ⟨x, r, rfl, k1, k2⟩ := hu'
      unfold VRs at k2
      subst k2
      unfold VR at k1
      subst k1
      refine ⟨l, xs, i, i.toNat, w, rfl, rfl, hl, by omega, by omega, ?_, h1, q _ _ (VRs.erase _ hv) h2⟩
      have hx : ixN xs.length i = some i.toNat := by unfold ixN; rw [if_pos hz.1, if_pos (by rw [← hv.length]; exact hz.2.1)]
      exact (ixN_seq hx).1
    · cases e
  · cases e
/-! ### slices -/
def cutS (xs : List Val) (lo hi : Option Int) : List Val := (xs.drop (HT.sIx xs.length 0 lo)).take (HT.sIx xs.length xs.length hi - HT.sIx xs.length 0 lo)
theorem VRs.cut {K : PySem.W.Frag} {g : G} {H : Hp} {vs : List Val} {ws : List V} (h : VRs K g H vs ws) (lo hi : Option Int) : VRs K g H (cutS vs lo hi) (cutV ws lo hi) := by
  unfold cutS cutV
  rw [h.length]
  exact VRs.take _ (VRs.drop _ h)
def fSl : Val → Option Int → Option Int → Option T
  | .lst vs, lo, hi => some (.own (cutS vs lo hi))
  | .tup vs, lo, hi => some (.val (.tup (cutS vs lo hi)))
  | _, _, _ => none
abbrev rSlX (K : PySem.W.Frag) : V → Option Int → Option Int → Hp → VK → Prop := fun x lo hi H Q => rSlL K x lo hi H Q ∨ rSlA K x lo hi H Q
theorem o_sl {X : Cx} : SlR X (rSlX X.K) := SlR_or sl_list sl_tupA
theorem p_sl {K : PySem.W.Frag} : PSl K (rSlX K) fSl := by
  intro g H v w lo hi t Q wf h e q
  unfold fSl at e
  split at e
  · cases e
    obtain ⟨a, ws, rfl, k1, k2⟩ := vw_lst h
    exact .inl ⟨a, ws, rfl, SqL.of k1, fun p hp => q _ _ (Add.upd hp) (newLst wf (k2.cut lo hi) hp)⟩
  · cases e
    rename_i vs
    obtain ⟨a, ws, rfl, k1, k2⟩ := vw_tup h
    refine .inr ⟨a, ws, rfl, k1, fun z => ?_, fun _ p hp => q _ _ (Add.upd hp) (newTup wf (k2.cut lo hi) hp)⟩
    have : cutS vs lo hi = vs := by
      unfold cutS
      rw [k2.length, z.1, z.2, List.drop_zero, ← k2.length, Nat.sub_zero, List.take_length]
    rw [this] at q
    exact q _ _ .refl h
  · cases e
/-! ### isinstance with built-in types -/
def tyN : Val → Option String
  | .non => some "NoneType"
  | .bl _ => some "bool"
  | .int _ => some "int"
  | .str _ => some "str"
  | .tup _ => some "tuple"
  | .lst _ => some "list"
  | _ => none
def isTy (a b : String) : Bool := a == b || (a == "bool" && b == "int")
theorem isTy_ok : ∀ a ∈ ["NoneType", "bool", "int", "str", "tuple", "list"], ∀ b ∈ ["bool", "int", "str", "tuple", "list"], kitB a b = some (isTy a b) := by decide +kernel
theorem tyN_mem {v : Val} {a : String} (h : tyN v = some a) : a ∈ ["NoneType", "bool", "int", "str", "tuple", "list"] := by
  cases v <;> first | (cases h; done) | (cases h; decide)
theorem tyN_ok {K : PySem.W.Frag} {g : G} {H : Hp} {v : Val} {w : V} {a : String} (h : Vw K g H v w) (e : tyN v = some a) : TyX K H w (.type a) := by
  cases v with
  | non => cases e; rw [vw_non h]; exact .base .non
  | bl _ => cases e; rw [vw_bl h]; exact .base (.bl _)
  | int _ => cases e; rw [vw_int h]; exact .base (.int _)
  | str _ => cases e; rw [vw_str h]; exact .base (.str _)
  | tup _ => cases e; obtain ⟨a, ws, rfl, k, _⟩ := vw_tupS h; exact .base (.tup k)
  | lst _ => cases e; obtain ⟨a, ws, rfl, k, _⟩ := vw_lst h; exact .base (.lst k)
  | _ => cases e
def okTy (b : String) : Bool := ["bool", "int", "str", "tuple", "list"].contains b
theorem okTy_mem {b : String} (h : okTy b = true) : b ∈ ["bool", "int", "str", "tuple", "list"] := by
  unfold okTy at h
  simpa using h
def fIsi : List Val → Option T
  | [v, .ty b] => if okTy b = true then (tyN v).bind fun a => vB (isTy a b) else none
  | [v, .tup [.ty b, .ty c]] => if okTy b = true ∧ okTy c = true then (tyN v).bind fun a => vB (isTy a b || isTy a c) else none
  | _ => none
abbrev rIsX (K : PySem.W.Frag) : List V → Hp → VK → Prop := fun xs H Q => rIsi K xs H Q ∨ rIsiT K xs H Q
theorem o_isi {X : Cx} : CallR X (.builtin "isinstance") (rIsX X.K) := CallR_or call_isi call_isiT
theorem p_isi {K : PySem.W.Frag} : PC K (rIsX K) fIsi := by
  intro g H vs ws t Q wf h e q
  unfold fIsi at e
  split at e
  · split at e
    · rename_i v b hb
      rw [Option.bind_eq_some_iff] at e
      obtain ⟨a, e1, e⟩ := e
      cases e
      cases h with | cons h1 h2 => ?_
      cases h2 with | cons h2 h3 => ?_
      cases h3
      cases vw_ty h2
      exact .inl ⟨_, _, .type a, .type b, _, rfl, .ty b, tyN_ok h1 e1, kit_ty (isTy_ok a (tyN_mem e1) b (okTy_mem hb)), q _ _ .refl rr_bl⟩
    · cases e
  · split at e
    · rename_i v b c hb
      rw [Option.bind_eq_some_iff] at e
      obtain ⟨a, e1, e⟩ := e
      cases e
      cases h with | cons h1 h2 => ?_
      cases h2 with | cons h2 h3 => ?_
      cases h3
      obtain ⟨tp, us, rfl, k1, k2⟩ := vw_tupS h2
      unfold VRs at k2
      obtain ⟨w1, r1, rfl, m1, k2⟩ := k2
      unfold VRs at k2
      obtain ⟨w2, r2, rfl, m2, k2⟩ := k2
      unfold VRs at k2
      subst k2
      unfold VR at m1 m2
      subst m1 m2
      refine .inr ⟨_, tp, _, .type a, [.type b, .type c], _, rfl, k1, .cons (.ty b) (.cons (.ty c) .nil), tyN_ok h1 e1, ?_, q _ _ .refl rr_bl⟩
      have kb := kit_ty (K := K) (isTy_ok a (tyN_mem e1) b (okTy_mem hb.1))
      have kc := kit_ty (K := K) (isTy_ok a (tyN_mem e1) c (okTy_mem hb.2))
      refine kitAny_cons kb (fun z => ?_) (fun z => by rw [z]; rfl)
      rw [z, Bool.false_or]
      exact kitAny_cons kc (fun z => by rw [z]; exact kitAny_nil) (fun z => z)
    · cases e
  · cases e
/-- the name of a built-in type as a value -/
theorem s_ty {X : Cx} {W : WX} {x : Str} {n : String} {pos : Pos} (hg : Gl X x) (hm : X.mg x = none) (hv : bootBuiltins x = some (.type n)) (hn : x ≠ "__name__" := by decide) (hd : (x == ("__debug__" : Str)) = false := by decide) : SE X W (.Name x pos) (mC (.ty n)) :=
  (pe_bltn (v := .ty n) hg hm hv rfl hn hd).im fun σ H Q ⟨g, st, r, p⟩ => p g _ H Ext.refl r (by show VR _ _ _ _ _; unfold VR; rfl)
/-! ### dicts whose keys are tuples of ints and texts -/
def leafK : Val → Option Key
  | .int i => some (.inl i)
  | .str x => some (.inr x)
  | _ => none
def leafKs : List Val → Option (List Key)
  | [] => some []
  | v :: vs => match leafK v with
    | some k => (leafKs vs).map (k :: ·)
    | none => none
def keyOf : Val → Option (List Key)
  | .tup vs => leafKs vs
  | _ => none
def lookD (kvs : List (Val × Val)) (k : List Key) : Option Val := (kvs.find? fun p => decide (keyOf p.1 = some k)).map (·.2)
def putD (kvs : List (Val × Val)) (k : List Key) (v : Val) : List (Val × Val) :=
  if (kvs.any fun p => decide (keyOf p.1 = some k)) = true then kvs.map (fun p => if keyOf p.1 = some k then (p.1, v) else p) else kvs ++ [(.tup (k.map kVal), v)]
theorem leafKs_map : ∀ k : List Key, leafKs (k.map kVal) = some k
  | [] => rfl
  | .inl i :: k => by show (leafKs (k.map kVal)).map _ = _; rw [leafKs_map k]; rfl
  | .inr i :: k => by show (leafKs (k.map kVal)).map _ = _; rw [leafKs_map k]; rfl
section
variable {K : PySem.W.Frag} {g : G} {H : Hp}
theorem leafKs_ok : ∀ {vs : List Val} {ws : List V} {k : List Key}, VRs K g H vs ws → leafKs vs = some k → ws = k.map kV ∧ vs = k.map kVal
  | [], ws, k, h, e => by unfold VRs at h; subst h; cases e; exact ⟨rfl, rfl⟩
  | v :: vs, ws, k, h, e => by
    unfold VRs at h
    obtain ⟨w, r, rfl, h1, h2⟩ := h
    unfold leafKs at e
    cases v with
    | int i =>
      simp only [leafK] at e
      rw [Option.map_eq_some_iff] at e
      obtain ⟨ks, e1, rfl⟩ := e
      obtain ⟨i1, i2⟩ := leafKs_ok h2 e1
      unfold VR at h1
      subst h1
      exact ⟨by rw [i1]; rfl, by rw [i2]; rfl⟩
    | str i =>
      simp only [leafK] at e
      rw [Option.map_eq_some_iff] at e
      obtain ⟨ks, e1, rfl⟩ := e
      obtain ⟨i1, i2⟩ := leafKs_ok h2 e1
      unfold VR at h1
      subst h1
      exact ⟨by rw [i1]; rfl, by rw [i2]; rfl⟩
    | _ => cases e
theorem key_ok {v : Val} {w : V} {k : List Key} (h : Vw K g H v w) (e : keyOf v = some k) : ∃ b, w = .ref b ∧ H b = some (.tup (k.map kV)) := by
  cases v with
  | tup vs =>
    obtain ⟨b, ws, rfl, h1, h2⟩ := vw_tupS h
    obtain ⟨i1, _⟩ := leafKs_ok h2 e
    exact ⟨b, rfl, by rw [h1, i1]⟩
  | _ => cases e
abbrev DRs (K : PySem.W.Frag) (g : G) (H : Hp) : List (Val × Val) → List (List Key × V) → Prop := Paired fun (p : Val × Val) (q : List Key × V) => p.1 = .tup (q.1.map kVal) ∧ VR K g H p.2 q.2
theorem key_iff {p : Val} {j k : List Key} (h : p = .tup (j.map kVal)) : keyOf p = some k ↔ j = k := by
  subst h
  show leafKs (j.map kVal) = some k ↔ j = k
  rw [leafKs_map]
  exact ⟨fun z => Option.some.inj z, fun z => by rw [z]⟩
theorem DRs.look : ∀ {kvs : List (Val × Val)} {kk : List (List Key × V)} (k : List Key), DRs K g H kvs kk → (∃ v w, lookD kvs k = some v ∧ valV kk k = some w ∧ VR K g H v w) ∨ (lookD kvs k = none ∧ valV kk k = none)
  | _, _, k, .nil => .inr ⟨rfl, rfl⟩
  | p :: kvs, q :: kk, k, .cons h t => by
    by_cases e : q.1 = k
    · refine .inl ⟨p.2, q.2, ?_, valV_pos e, h.2⟩
      have : keyOf p.1 = some k := (key_iff h.1).mpr e
      simp [lookD, List.find?_cons, this]
    · have : ¬ keyOf p.1 = some k := fun z => e ((key_iff h.1).mp z)
      have e2 : lookD (p :: kvs) k = lookD kvs k := by simp [lookD, List.find?_cons, this]
      rw [e2, valV_neg e]
      exact DRs.look k t
theorem DRs.length {kvs : List (Val × Val)} {kk : List (List Key × V)} (h : DRs K g H kvs kk) : kvs.length = kk.length := Paired.length h
theorem DRs.any : ∀ {kvs : List (Val × Val)} {kk : List (List Key × V)} (k : List Key), DRs K g H kvs kk → (kvs.any fun p => decide (keyOf p.1 = some k)) = kk.any fun kv => decide (kv.1 = k)
  | _, _, k, .nil => rfl
  | p :: kvs, q :: kk, k, .cons h t => by
    rw [List.any_cons, List.any_cons, DRs.any k t]
    congr 1
    exact decide_eq_decide.mpr (key_iff h.1)
theorem DRs.app : ∀ {kvs : List (Val × Val)} {kk : List (List Key × V)} {p : Val × Val} {q : List Key × V}, DRs K g H kvs kk → (p.1 = .tup (q.1.map kVal) ∧ VR K g H p.2 q.2) → DRs K g H (kvs ++ [p]) (kk ++ [q])
  | _, _, _, _, .nil, h => .cons h .nil
  | _, _, _, _, .cons r t, h => .cons r (DRs.app t h)
theorem DRs.repl {v : Val} {w : V} (hv : VR K g H v w) : ∀ {kvs : List (Val × Val)} {kk : List (List Key × V)} (k : List Key), DRs K g H kvs kk → DRs K g H (kvs.map fun p => if keyOf p.1 = some k then (p.1, v) else p) (kk.map fun kv => if kv.1 = k then (kv.1, w) else kv)
  | _, _, k, .nil => .nil
  | p :: kvs, q :: kk, k, .cons h t => by
    rw [List.map_cons, List.map_cons]
    refine .cons ?_ (DRs.repl hv k t)
    by_cases e : q.1 = k
    · rw [if_pos e, if_pos ((key_iff h.1).mpr e)]; exact ⟨h.1, hv⟩
    · rw [if_neg e, if_neg (fun z => e ((key_iff h.1).mp z))]; exact h
theorem DRs.put {v : Val} {w : V} (hv : VR K g H v w) {kvs : List (Val × Val)} {kk : List (List Key × V)} (k : List Key) (h : DRs K g H kvs kk) : DRs K g H (putD kvs k v) (putK kk k w) := by
  unfold putD putK
  rw [DRs.any k h]
  split
  · exact DRs.repl hv k h
  · exact DRs.app h ⟨rfl, hv⟩
end
/-- the dict's place -/
def dicAt (o : T) (st : MS) : Option (Nat × List (Val × Val)) := match o with
  | .val (.ref n) => match st.hp[n]? with
    | some (.dic kvs) => some (n, kvs)
    | _ => none
  | _ => none
def mDNew : M T := fun st => .ok (.val (.ref st.hp.length)) { st with hp := st.hp ++ [.dic []] }
def dGetT (to tk : T) : M T := fun st => match dicAt to st with
  | some (_, kvs) => match (view tk st).bind keyOf with
    | some k => match lookD kvs k with
      | some v => .ok (.val v) st
      | none => .bad
    | none => .bad
  | none => .bad
def mDGet (mo mi : M T) : M T := fun st => (mo st).bind fun o st1 => (mi st1).bind fun i st2 => dGetT o i st2
def dHasT (neg : Bool) (to tk : T) : M T := fun st => match dicAt to st with
  | some (_, kvs) => match (view tk st).bind keyOf with
    | some k => .ok (.val (.bl (if neg then !(lookD kvs k).isSome else (lookD kvs k).isSome))) st
    | none => .bad
  | none => .bad
def mDIn (neg : Bool) (mi mo : M T) : M T := fun st => (mi st).bind fun i st1 => (mo st1).bind fun o st2 => dHasT neg o i st2
def dPutT (to tk : T) (v : Val) : M Fl := fun st => match dicAt to st with
  | some (n, kvs) => match (view tk st).bind keyOf with
    | some k => if kvs.length < 16777216 then .ok .nx { st with hp := st.hp.set n (.dic (putD kvs k v)) } else .bad
    | none => .bad
  | none => .bad
def mDPut (mv mo mi : M T) : M Fl := fun st => (mv st).bind fun t st1 => (mTake t st1).bind fun v st1' => (mo st1').bind fun o st2 => (mi st2).bind fun i st3 => dPutT o i v st3
section
variable {X : Cx} {W : WX} {o i e value : Expr} {pos pos' : Pos} {mo mi mv : M T}
theorem dic_ok {K : PySem.W.Frag} {g0 g1 : G} {H0 H1 : Hp} {σ : L2.St} {st1 : MS} {t : T} {w : V} {n : Nat} {kvs : List (Val × Val)} (r : R K g1 st1 σ H1) (q : TR K g0 H0 g1 H1 σ t w) (e : dicAt t st1 = some (n, kvs)) :
    ∃ a kk, w = .ref a ∧ g1.rho n = some a ∧ H1 a = some (.dT kk) ∧ DRs K g1 H1 kvs kk := by
  cases t with
  | own _ => cases e
  | loc _ => cases e
  | val v =>
    cases v with
    | ref m =>
      simp only [dicAt] at e
      split at e
      · rename_i kv ek
        cases e
        obtain ⟨a, h1, kk, h2, h3⟩ := r.ob _ _ ek
        have q : VR K g1 H1 (.ref n) w := q
        unfold VR at q
        obtain ⟨a', k1, rfl⟩ := q
        rw [h1] at k1; cases k1
        exact ⟨a, kk, rfl, h1, h2, h3⟩
      · cases e
    | _ => cases e
theorem s_dnew : SE X W (.Dict [] [] pos) mDNew := pe_dnewT.im fun σ H Q ⟨g, st, r, p⟩ a ha => by
  have d : Add H (upd H a (.dT [])) := Add.upd ha
  have wf := r.wf
  have r2 := r.add d
  have r3 := r2.place (a := a) (o := .dic []) (fun z => r.sa a z ha) (wf.no_rho ha) (wf.no_O ha) ⟨[], upd_same, .nil⟩
  refine p _ _ _ (d.ext.place (fun b z => absurd (r.dom _ _ z) (Nat.lt_irrefl _)) (.inl ha)) r3 ?_
  show VR _ _ _ _ _
  unfold VR
  exact ⟨a, by show (if _ = _ then _ else _) = _; rw [if_pos rfl], rfl⟩
theorem view_key {K : PySem.W.Frag} {g0 g1 : G} {H0 H1 : Hp} {σ : L2.St} {st1 : MS} {t : T} {w : V} {k : List Key} (r : R K g1 st1 σ H1) (q : TR K g0 H0 g1 H1 σ t w) (e : (view t st1).bind keyOf = some k) : ∃ b, w = .ref b ∧ H1 b = some (.tup (k.map kV)) := by
  rw [Option.bind_eq_some_iff] at e
  obtain ⟨v, e1, e2⟩ := e
  exact key_ok (view_ok r q e1) e2
theorem s_dget (hu : X.A.units + 1 < cLine) (ho : SE X W o mo) (hi : SE X W i mi) (hs : NoSl i := by intro _ _; rfl) : SE X W (.Subscript o i pos) (mDGet mo mi) := (pe_dget hu ho hi hs).im fun σ H Q ⟨g, st, r, p⟩ =>
  ⟨g, st, r, Pst.bind Ext.refl p fun g2 w H2 t st2 e2 _ r2 q2 p2 => ⟨g2, st2, r2, Pst.bind e2 p2 fun g3 w3 H3 t3 st3 e3 e3' r3 q3 p3 => by
    unfold dGetT at p3
    split at p3
    · rename_i n kvs ed
      split at p3
      · rename_i k ek
        split at p3
        · rename_i v ev
          obtain ⟨a, kk, rfl, h1, h2, h3⟩ := dic_ok r3 (TR.rel.ext r2.wf e3' q2) ed
          obtain ⟨b, rfl, hb⟩ := view_key r3 q3 ek
          rcases h3.look k with ⟨v', w', l1, l2, l3⟩ | ⟨l1, l2⟩
          · rw [ev] at l1; cases l1
            exact ⟨a, w', rfl, l2 ▸ DGet.t h2 hb, p3 g3 w' H3 e3 r3 l3⟩
          · rw [ev] at l1; cases l1
        · exact p3.elim
      · exact p3.elim
    · exact p3.elim⟩⟩
theorem dHas_ok {neg : Bool} {K : PySem.W.Frag} {mg : Str → Option Value} {g g1 : G} {H H1 : Hp} {g0 g9 : G} {H0 H9 : Hp} {σ : L2.St} {st1 : MS} {t ti : T} {w wi : V} {Q : VK} (e : Ext g H g1 H1) (r : R K g1 st1 σ H1) (q : TR K g0 H0 g1 H1 σ t w) (qi : TR K g9 H9 g1 H1 σ ti wi)
    (p : Pst K mg W (TR K) g H σ (dHasT neg t ti st1) Q) : ∃ a o, w = .ref a ∧ DGet H1 a wi o ∧ Q (.bl (if neg then !o.isSome else o.isSome)) H1 := by
  unfold dHasT at p
  split at p
  · rename_i n kvs ed
    split at p
    · rename_i k ek
      obtain ⟨a, kk, rfl, h1, h2, h3⟩ := dic_ok r q ed
      obtain ⟨b, rfl, hb⟩ := view_key r qi ek
      refine ⟨a, _, rfl, DGet.t h2 hb, ?_⟩
      have : (lookD kvs k).isSome = (valV kk k).isSome := by
        rcases h3.look k with ⟨v', w', l1, l2, l3⟩ | ⟨l1, l2⟩
        · rw [l1, l2]; rfl
        · rw [l1, l2]; rfl
      rw [← this]
      exact p g1 _ H1 e r (by show VR _ _ _ _ _; unfold VR; rfl)
    · exact p.elim
  · exact p.elim
theorem tDIn_ok {σ : L2.St} {H : Hp} {Q : VK} (h : sE X.K X.mg W (mDIn false mi mo) σ H Q) : tDIn (sE X.K X.mg W mi) (sE X.K X.mg W mo) σ H Q := by
  obtain ⟨g, st, r, p⟩ := h
  exact ⟨g, st, r, Pst.bind Ext.refl p fun g2 w H2 t st2 e2 _ r2 q2 p2 => ⟨g2, st2, r2, Pst.bind e2 p2 fun g3 w3 H3 t3 st3 e3 e3' r3 q3 p3 => dHas_ok e3 r3 q3 (TR.rel.ext r2.wf e3' q2) p3⟩⟩
theorem tDNotIn_ok {σ : L2.St} {H : Hp} {Q : VK} (h : sE X.K X.mg W (mDIn true mi mo) σ H Q) : tDNotIn (sE X.K X.mg W mi) (sE X.K X.mg W mo) σ H Q := by
  obtain ⟨g, st, r, p⟩ := h
  exact ⟨g, st, r, Pst.bind Ext.refl p fun g2 w H2 t st2 e2 _ r2 q2 p2 => ⟨g2, st2, r2, Pst.bind e2 p2 fun g3 w3 H3 t3 st3 e3 e3' r3 q3 p3 => dHas_ok e3 r3 q3 (TR.rel.ext r2.wf e3' q2) p3⟩⟩
theorem t_din (hu : X.A.units + 1 < cLine) (hi : SE X W i mi) (ho : SE X W o mo) (h1 : behindInMarks .In o = false := by rfl) : ST X W (.Compare i [.In] [o] pos) (mTst (mDIn false mi mo)) := (pt_cmp (pc_din hu hi ho) h1).im fun σ H Q ⟨g, st, r, p⟩ =>
  tDIn_ok (Q := fun w H2 => ∃ k, w = .bl k ∧ Q k H2) ⟨g, st, r, Pst.bind (RelA := TR X.K) Ext.refl p fun g2 w H2 t st2 e2 _ r2 q2 p2 => asB_ok e2 r2 q2 p2⟩
theorem t_dnotin (hu : X.A.units + 1 < cLine) (hi : SE X W i mi) (ho : SE X W o mo) (h1 : behindInMarks .NotIn o = false := by rfl) : ST X W (.Compare i [.NotIn] [o] pos) (mTst (mDIn true mi mo)) := (pt_cmp (pc_dnotin hu hi ho) h1).im fun σ H Q ⟨g, st, r, p⟩ =>
  tDNotIn_ok (Q := fun w H2 => ∃ k, w = .bl k ∧ Q k H2) ⟨g, st, r, Pst.bind (RelA := TR X.K) Ext.refl p fun g2 w H2 t st2 e2 _ r2 q2 p2 => asB_ok e2 r2 q2 p2⟩
theorem k_dput (hu : X.A.units + 1 < cLine) (hv : SE X W value mv) (ho : SE X W o mo) (hi : SE X W i mi) (hs : swapsWith value (some (.Subscript o i pos')) pos.line X.env = pure false := by rfl) : SS X W (.Assign [.Subscript o i pos'] value pos) (mDPut mv mo mi) := (ps_dput hu ho hi hv hs).im fun D σ H ⟨g, st, r, p⟩ =>
  ⟨g, st, r, SPst.bind Ext.refl p fun g2 w H2 t st2 e2 _ r2 q2 p2 => by
    obtain ⟨g3, st3, v, e3, r3, v3, p3⟩ := SPst.take e2 r2 q2 p2
    exact ⟨g3, st3, r3, SPst.bind (RelA := TR X.K) e3 p3 fun g4 w4 H4 t4 st4 e4 e4' r4 q4 p4 => ⟨g4, st4, r4, SPst.bind (RelA := TR X.K) e4 p4 fun g5 w5 H5 t5 st5 e5 e5' r5 q5 p5 => by
      unfold dPutT at p5
      split at p5
      · rename_i n kvs ed
        split at p5
        · rename_i k ek
          split at p5
          · rename_i hl
            obtain ⟨a, kk, rfl, h1, h2, h3⟩ := dic_ok r5 (TR.rel.ext r4.wf e5' q4) ed
            obtain ⟨b, rfl, hb⟩ := view_key r5 q5 ek
            have v5 := VR.ext r4.wf e5' _ _ (VR.ext r3.wf e4' _ _ v3)
            obtain ⟨ex, r6⟩ := r5.putHp (o' := .dic (putD kvs k v)) (u := .dT (putK kk k w)) h1 fun g' H' ex hu => ⟨_, hu, DRs.put (VR.ext r5.wf ex _ _ v5) k (prd_map (fun _ _ z => ⟨z.1, VR.ext r5.wf ex _ _ z.2⟩) h3)⟩
            exact ⟨a, _, rfl, DPut.t h2 hb (by rw [← h3.length, sizeLine_eq]; exact hl), p5 g5 σ _ (e5.trans ex) r6⟩
          · exact p5.elim
        · exact p5.elim
      · exact p5.elim⟩⟩⟩
end
end Sm

namespace Sm
section
open PySem PySem.Spec PyProof.Rows L2
abbrev enumCell (it : Addr) : Obj := { cls := .type "enumerate", data := .fields #[.none, .bool false, .ref it, rawInt 0, .none, .none] }
/-- enumerate(v) for whatever has an iterator -/
theorem meets_enum1 {v : Value} {o : Obj} {S : Heap → Prop} (B : Begins v o S) : Meets (Builtin.«enumerate.__new__» ⟨[.type "enumerate", v], []⟩)
    (fun _ R s => S s.heap ∧ R (.ok (.ret (.ref (s.heap.push o).objs.size))) { s with heap := (s.heap.push o).push (enumCell s.heap.objs.size) }) :=
  .of_wp fun prog w A R ⟨hp, g, d, tk, os⟩ ⟨hS, hR⟩ => by
    have sub := sub_enumerate
    have first : ∀ {A' : Around} {E' Q' : Value → Shared → Prop}, Q' (.ref hp.objs.size) ⟨hp.push o, g, d, tk, os⟩ → wpAny (model prog w) A' (pyIter v) Q' E' ⟨hp, g, d, tk, os⟩ := fun q => B.iter _ _ _ _ _ _ hS q
    wp_walk
    refine wpAny_stack_any fun _ => wpAny_pure ?_
    split
    · rename_i c _ _ _ _ _
      by_cases hc : (c == Value.type "enumerate") = true <;> (try simp only [hc, if_true, if_false, Bool.false_eq_true]) <;> (wp_walk using first; exact ⟨_, rfl, hR⟩)
    · wp_walk using first
      exact ⟨_, rfl, hR⟩
theorem call_enum1 {prog : Program} {w : World} {A : Around} {E Q : Value → Shared → Prop} {s : Shared} {v : Value} {o : Obj} {S : Heap → Prop} (B : Begins v o S) (hS : S s.heap)
    (h : ∀ h', IsEnum h' (s.heap.objs.size + 1) s.heap.objs.size 0 .none → h'.get? s.heap.objs.size = some o → (∀ b u, s.heap.get? b = some u → h'.get? b = some u) → Q (.ref (s.heap.objs.size + 1)) { s with heap := h' }) :
    wpAny (model prog w) A (call (.type "enumerate") [v]) Q E s := by
  have two : (s.heap.push o).objs.size = s.heap.objs.size + 1 := Heap.size_push ..
  have at2 : ((s.heap.push o).push (enumCell s.heap.objs.size)).get? (s.heap.objs.size + 1) = some (enumCell s.heap.objs.size) := two ▸ Heap.get?_push_size (s.heap.push o) (o := enumCell s.heap.objs.size) rfl
  have fin := h _ at2 (Heap.get?_push_of_some _ (Heap.get?_push_size _ B.free)) fun b u e => Heap.get?_push_of_some _ (Heap.get?_push_of_some _ e)
  exact callType_new F.called_enumerate (by decide) (F.typeCall_enumerate_1 _) (F.newCall_enumerate_1 _) (fun obj => F.args_object_init_2 obj _) F.entry_enumerate_new (meets_enum1 B) ⟨hS, ⟨_, two ▸ at2, rfl⟩, two ▸ fin⟩
/-- the tuple at a, each item in a new pair -/
def IteT (K : PySem.W.Frag) (a : Addr) (n : Nat) : It where
  go := fun i H => ∃ (xs : List V) (x : V), SqT K H a xs ∧ xs.length = n ∧ xs[i]? = some x
  yld := fun i H v H' => ∃ T x, v = .ref T ∧ H T = none ∧ H' = upd H T (.tup [.int (i : Nat), x]) ∧ ∀ xs, SqT K H a xs → xs[i]? = some x
  stop := fun i H => ∃ xs : List V, SqT K H a xs ∧ xs.length = n ∧ n ≤ i
/-- the turns, by the library's walker over enumerate: the tuple never changes, its items are read off the heap at each turn -/
theorem turn_enumT {P : Program} {w : World} {K : PySem.W.Frag} {elts : List Expr} {kk : Nat} {tpos : Pos} (n : Nat) (a e it : Addr) :
    Turn P w K (.Tuple elts kk tpos) (IteT K a n) [e, it] e (fun i h => (∃ old, IsEnum h e it (i : Nat) old) ∧ h.IsTupleIter it a i ∧ e ≠ it ∧ i ≤ n) := by
  have apart : ∀ {h : Heap} {i : Nat} {old : Value} {its : Array Value}, IsEnum h e it (i : Nat) old → h.IsTupleIter it a i → h.IsTuple a its → a ≠ e ∧ a ≠ it := fun {h i old its} he hi ht => by
    obtain ⟨o, ho, hc, _⟩ := ht
    obtain ⟨o2, ho2, hc2, _⟩ := hi
    refine ⟨fun z => ?_, fun z => ?_⟩
    · have he : h.get? e = some _ := he
      rw [← z, ho] at he
      rw [Option.some.inj he] at hc
      injection hc with hc
      exact absurd hc (by decide)
    · rw [← z, ho] at ho2
      rw [← Option.some.inj ho2, hc] at hc2
      injection hc2 with hc2
      exact absurd hc2 (by decide)
  refine { mem := List.mem_cons_self, obj := fun i h st b hb => ?_, keep := fun i h h' st k => ?_, item := ?_, done := ?_, self := fun A i s Q E st q => wpAny_pyIter_enum st.1.choose_spec q }
  · rcases List.mem_cons.mp hb with rfl | hb
    · exact ⟨_, st.1.choose_spec, nofun⟩
    · obtain ⟨o, ho, _, hd⟩ := st.2.1
      exact ⟨o, List.mem_singleton.mp hb ▸ ho, fun v q => by rw [hd] at q; cases q⟩
  · exact ⟨⟨_, k e List.mem_cons_self _ st.1.choose_spec⟩, st.2.1.at (k it (List.mem_cons_of_mem _ List.mem_cons_self)), st.2.2⟩
  · rintro X rfl rfl rfl hc i pins s σ H E I fp ⟨⟨old, he⟩, hi, hne, _⟩ ⟨xs, x, hq, hn, hx⟩
    obtain ⟨its, rel, tup, _⟩ := I.tuple hq
    obtain ⟨u, hu, ru⟩ := rel.get hx
    obtain ⟨n1, n2⟩ := apart he hi tup
    have W := WalksT.enumerateD (Draws.tuple (prog := X.prog) (w := X.w) (A := X.A.in1) (I.ok.hd hc) it a n2 its.toArray) e hne (by simp [hne, n1.symm]) (by simp)
    have lt : i < its.toArray.size := by rw [List.size_toArray]; exact lt_of_get hu
    refine W.item i s _ E lt ⟨⟨old, he⟩, hi, tup⟩ fun T vals h1 tk hv hT tT mid k1 => ⟨_, rfl, W.go elts kk tpos i T _ _ _ mid fun h2 st2 k2 => ?_⟩
    obtain ⟨t, y, hy, rfl⟩ := hv
    obtain rfl : y = u := Option.some.inj (hy.symm.trans (by rw [List.getElem?_toArray]; exact hu))
    have J := I.turnedNew (t' := tk) (ob := .tup [.int (i : Nat), x]) (fun b o hb q => k2 b o hb (k1 b o hb q)) fp hT ⟨(by decide : 2 ≤ sizeLine), _, .cons ⟨t, rfl⟩ (.cons ru .nil), tT.at (k2 T · (W.apart i T h1 mid))⟩
    refine ⟨.ref T, _, J, rfl, ⟨T, x, rfl, I.hok.fresh hT, rfl, fun ys hy => I.tuple_inj hq hy ▸ hx⟩, ⟨st2.1, st2.2.1, hne, hn ▸ lt_of_get hx⟩, fun b hb => ?_⟩
    exact (upd_ne fun z => W.apart i T h1 mid (by rw [← z]; exact hb)).trans (fp b hb).1
  · rintro X rfl rfl rfl hc i pins s σ H E I fp ⟨⟨old, he⟩, hi, hne, le⟩ ⟨xs, hq, hn, ge⟩
    obtain ⟨its, rel, tup, _⟩ := I.tuple hq
    obtain ⟨n1, n2⟩ := apart he hi tup
    have ez : i = its.toArray.size := by rw [List.size_toArray, ← rel.length, hn]; exact Nat.le_antisymm le ge
    rw [ez] at he hi
    obtain ⟨f0, f1, f2, f3, f4, f5⟩ := fp it (List.mem_cons_of_mem _ List.mem_cons_self)
    exact wpAny_pyNext_enum_endD (Draws.tuple (prog := X.prog) (w := X.w) (A := X.A.in1) (I.ok.hd hc) it a n2 its.toArray) he ⟨hi, tup⟩ fun h' k => ⟨rfl, I.turned (t' := s.toks) (fun b o hb => k b o hb) f0 f1 f3 f4 f5⟩
def iEnumT (K : PySem.W.Frag) (ta : TA) : TI := fun σ H R => ta σ H fun vs H1 => ∃ a xs, vs = [.ref a] ∧ ((SqL K H1 a xs ∧ R (Ite K a) H1) ∨ (SqT K H1 a xs ∧ R (IteT K a xs.length) H1))
theorem pi_enumT {X : Cx} {e : Expr} {ta : TA} {p pos tpos : Pos} {elts : List Expr} {kk : Nat} (hg : Gl X "enumerate") (hm : X.mg "enumerate" = none) (ha : PA X [e] ta) (hs : starEach [e] X.env = [(false, eval e X.env)] := by rfl) :
    PI X (.Tuple elts kk tpos) (.Call (.Name "enumerate" p) [e] [] pos) (iEnumT X.K ta) where
  run pins s σ H R I h := by
    refine Call_ (ld_blt I hg hm boot_enumerate (PyProof.Rows.callWith_type1 (thn (ha.run pos pins s σ H _ I h) ?_) hs rfl))
    rintro us s1 ⟨_, H1, I1, rs, a, xs, rfl, q⟩
    cases rs with | cons ra rt => ?_
    cases rt
    cases ra
    -- the two new cells are nobody's
    have new : ∀ b ∈ [s1.heap.objs.size + 1, s1.heap.objs.size], FpOk X pins H1 b := fun b hb => by
      have ge : s1.heap.objs.size ≤ b := by simp at hb; omega
      exact I1.fpOk ge (I1.hok.fresh ge)
    rcases q with ⟨sq, q⟩ | ⟨sq, q⟩
    · obtain ⟨its, _, pl, _⟩ := I1.list sq
      refine call_enum1 (begins_list a its.toArray) pl.isList fun h' he hit k => wpAny_pyIter_enum he ?_
      exact ⟨_, _, _, _, H1, rfl, I1.kept (t' := s1.toks) k, turn_enum a _ _, ⟨⟨_, he⟩, ⟨_, hit, rfl, rfl⟩, Nat.succ_ne_self _⟩, new, q⟩
    · obtain ⟨its, _, pt, _⟩ := I1.tuple sq
      refine call_enum1 (begins_tuple a its.toArray) pt fun h' he hit k => wpAny_pyIter_enum he ?_
      exact ⟨_, _, _, _, H1, rfl, I1.kept (t' := s1.toks) k, turn_enumT _ a _ _, ⟨⟨_, he⟩, ⟨_, hit, rfl, rfl⟩, Nat.succ_ne_self _, Nat.zero_le _⟩, new, q⟩
end
open PySem L2
/-! ### enumerate, zip -/
def enumF : Nat → List Val → List Val
  | _, [] => []
  | i, v :: vs => .tup [.int (i : Nat), v] :: enumF (i + 1) vs
theorem enumF_len : ∀ {vs : List Val} {i : Nat}, (enumF i vs).length = vs.length
  | [], _ => rfl
  | v :: vs, i => by unfold enumF; rw [List.length_cons, List.length_cons, enumF_len]
theorem enumF_get : ∀ {vs : List Val} {i j : Nat} {v : Val}, vs[j]? = some v → (enumF i vs)[j]? = some (.tup [.int ((i + j : Nat) : Int), v])
  | [], _, _, _, h => by simp at h
  | v :: vs, i, 0, _, h => by simp at h; subst h; simp [enumF]
  | v :: vs, i, j + 1, _, h => by
    show (enumF (i + 1) vs)[j]? = _
    rw [enumF_get (i := i + 1) (j := j) (by simpa using h), show i + 1 + j = i + (j + 1) by omega]
def zipF : List Val → List Val → List Val
  | a :: as, b :: bs => .tup [a, b] :: zipF as bs
  | _, _ => []
theorem zipF_len : ∀ {as bs : List Val}, (zipF as bs).length = min as.length bs.length
  | [], _ => by simp [zipF]
  | _ :: _, [] => by simp [zipF]
  | a :: as, b :: bs => by unfold zipF; rw [List.length_cons, List.length_cons, List.length_cons, zipF_len]; omega
theorem zipF_get : ∀ {as bs : List Val} {j : Nat} {a b : Val}, as[j]? = some a → bs[j]? = some b → (zipF as bs)[j]? = some (.tup [a, b])
  | [], _, _, _, _, h, _ => by simp at h
  | _ :: _, [], _, _, _, _, h => by simp at h
  | a :: as, b :: bs, 0, _, _, h, h' => by simp at h h'; subst h h'; rfl
  | a :: as, b :: bs, j + 1, _, _, h, h' => by
    show (zipF as bs)[j]? = _
    exact zipF_get (by simpa using h) (by simpa using h')
def mEnum (m : M T) : M (List Val) := fun st => (m st).bind fun t st1 => (mTake t st1).bind fun v st2 => match v with
  | .tup vs => .ok (enumF 0 vs) st2
  | .lst vs => .ok (enumF 0 vs) st2
  | _ => .bad
def mZip (ma mb : M T) : M (List Val) := fun st => (ma st).bind fun ta st1 => (mb st1).bind fun tb st2 => (mTake ta st2).bind fun a st3 => (mTake tb st3).bind fun b st4 => match a, b with
  | .tup as, .tup bs => .ok (zipF as bs) st4
  | .lst as, .lst bs => .ok (zipF as bs) st4
  | _, _ => .bad
section
variable {K : PySem.W.Frag} {g : G} {H : Hp} {vs : List Val}
mutual
theorem VR.add {H' : Hp} (d : Add H H') : ∀ (v : Val) (w : V), VR K g H v w → VR K g H' v w
  | .non, x, h => by unfold VR at h ⊢; exact h
  | .bl b, x, h => by unfold VR at h ⊢; exact h
  | .int i, x, h => by unfold VR at h ⊢; exact h
  | .str s, x, h => by unfold VR at h ⊢; exact h
  | .ty s, x, h => by unfold VR at h ⊢; exact h
  | .adr s d0 ns vs, x, h => by
    unfold VR at h ⊢
    obtain ⟨h1, h2 | ⟨p, ws, h2, h3, h4, h5⟩⟩ := h
    · exact ⟨h1, .inl h2⟩
    · exact ⟨h1, .inr ⟨p, ws, h2, d _ _ h3, h4, VRs.add d vs _ h5⟩⟩
  | .lam l, x, h => by
    unfold VR at h ⊢
    obtain ⟨f, h1, c', dv, h2, h3, h4⟩ := h
    refine ⟨f, h1, c', dv, d _ _ h2, d _ _ h3, ?_⟩
    split at h4
    · exact h4
    · obtain ⟨t, e1, e2⟩ := h4
      exact ⟨t, e1, d _ _ e2⟩
  | .ref s, x, h => by unfold VR at h ⊢; exact h
  | .tup vs, x, h => by
    unfold VR at h ⊢
    obtain ⟨a, ws, h1, h2, h3⟩ := h
    exact ⟨a, ws, h1, d _ _ h2, VRs.add d vs ws h3⟩
  | .ktup vs, x, h => by
    unfold VR at h ⊢
    obtain ⟨a, ws, h1, h2, h3⟩ := h
    exact ⟨a, ws, h1, h2, VRs.add d vs ws h3⟩
  | .lst vs, x, h => by
    unfold VR at h ⊢
    obtain ⟨a, ws, h1, hs, h2, h3⟩ := h
    exact ⟨a, ws, h1, hs, d _ _ h2, VRs.add d vs ws h3⟩
  | .scr vs, x, h => by
    unfold VR at h ⊢
    obtain ⟨a, ws, h1, h2, h3⟩ := h
    exact ⟨a, ws, h1, h2.imp (fun z => ⟨z.1, z.2.imp (fun z => d _ _ z) fun ⟨o, z⟩ => ⟨o, d _ _ z⟩⟩) (fun z => z), VRs.add d vs ws h3⟩
theorem VRs.add {H' : Hp} (d : Add H H') : ∀ (vs : List Val) (ws : List V), VRs K g H vs ws → VRs K g H' vs ws
  | [], x, h => by unfold VRs at h ⊢; exact h
  | v :: vs, x, h => by
    unfold VRs at h ⊢
    obtain ⟨a, r, h1, h2, h3⟩ := h
    exact ⟨a, r, h1, VR.add d v a h2, VRs.add d vs r h3⟩
end
theorem vr_pair {p : Addr} {a b : Val} {x y : V} (hp : H p = none) (ha : VR K g H a x) (hb : VR K g H b y) : VR K g (upd H p (.tup [x, y])) (.tup [a, b]) (.ref p) := by
  unfold VR
  have d : Add H (upd H p (.tup [x, y])) := Add.upd hp
  exact ⟨p, [x, y], rfl, upd_same, VRs.cons (VR.add d _ _ ha) (VRs.cons (VR.add d _ _ hb) VRs.nil)⟩
theorem SrcOk.enumL {a : Addr} {ws : List V} (w : Wf g H) (h : Stab K g H a ws) (q : VRs K g H vs ws) : SrcOk K g H (Ite K a) (enumF 0 vs) where
  go := fun g' H' e i hi => by
    rw [enumF_len] at hi
    obtain ⟨v, w', h1, h2, _⟩ := q.lt hi
    exact ⟨ws, w', (h.ext w e).sq, h2⟩
  stop := fun g' H' e i hi => ⟨ws, (h.ext w e).sq, by rw [enumF_len] at hi; rw [← q.length]; exact hi⟩
  yld := fun g' H' e i x H'' hi y => by
    obtain ⟨p, x', rfl, hp, rfl, y⟩ := y
    have y := y ws (h.ext w e).sq
    obtain ⟨v, h1, h2⟩ := (VRs.ext w e _ _ q).get' y
    refine ⟨Add.upd hp, _, enumF_get h1, ?_⟩
    rw [Nat.zero_add]
    exact vr_pair hp vr_int h2
theorem SrcOk.enumT {a : Addr} {ws : List V} (w : Wf g H) (h : H a = some (.tup ws) ∨ SqTK K a ws) (q : VRs K g H vs ws) : SrcOk K g H (IteT K a ws.length) (enumF 0 vs) where
  go := fun g' H' e i hi => by
    rw [enumF_len] at hi
    obtain ⟨v, w', h1, h2, _⟩ := q.lt hi
    exact ⟨ws, w', StT.ext w e h, rfl, h2⟩
  stop := fun g' H' e i hi => ⟨ws, StT.ext w e h, rfl, by rw [enumF_len] at hi; rw [← q.length]; exact hi⟩
  yld := fun g' H' e i x H'' hi y => by
    obtain ⟨p, x', rfl, hp, rfl, y⟩ := y
    have y := y ws (StT.ext w e h)
    obtain ⟨v, h1, h2⟩ := (VRs.ext w e _ _ q).get' y
    refine ⟨Add.upd hp, _, enumF_get h1, ?_⟩
    rw [Nat.zero_add]
    exact vr_pair hp vr_int h2
theorem SrcOk.zipL {a b : Addr} {ws us : List V} {vs' : List Val} (w : Wf g H) (h : Stab K g H a ws) (q : VRs K g H vs ws) (h' : Stab K g H b us) (q' : VRs K g H vs' us) : SrcOk K g H (Itz K a b) (zipF vs vs') where
  go := fun g' H' e i hi => by
    rw [zipF_len] at hi
    obtain ⟨v, w', h1, h2, _⟩ := q.lt (show i < vs.length by omega)
    obtain ⟨v2, w2, h3, h4, _⟩ := q'.lt (show i < vs'.length by omega)
    exact ⟨ws, us, w', w2, (h.ext w e).sq, (h'.ext w e).sq, h2, h4⟩
  stop := fun g' H' e i hi => ⟨ws, us, (h.ext w e).sq, (h'.ext w e).sq, by rw [zipF_len] at hi; rw [← q.length, ← q'.length]; omega⟩
  yld := fun g' H' e i x H'' hi y => by
    obtain ⟨p, x', y', rfl, hp, rfl, k1, k2⟩ := y
    obtain ⟨v, h1, h2⟩ := (VRs.ext w e _ _ q).get' (k1 ws (h.ext w e).sq)
    obtain ⟨v', h3, h4⟩ := (VRs.ext w e _ _ q').get' (k2 us (h'.ext w e).sq)
    exact ⟨Add.upd hp, _, zipF_get h1 h3, vr_pair hp h2 h4⟩
theorem SrcOk.zipT {a b : Addr} {ws us : List V} {vs' : List Val} (w : Wf g H) (h : H a = some (.tup ws) ∨ SqTK K a ws) (q : VRs K g H vs ws) (h' : H b = some (.tup us) ∨ SqTK K b us) (q' : VRs K g H vs' us) : SrcOk K g H (RZ.ItzT K a b) (zipF vs vs') where
  go := fun g' H' e i hi => by
    rw [zipF_len] at hi
    obtain ⟨v, w', h1, h2, _⟩ := q.lt (show i < vs.length by omega)
    obtain ⟨v2, w2, h3, h4, _⟩ := q'.lt (show i < vs'.length by omega)
    exact ⟨ws, us, w', w2, StT.ext w e h, StT.ext w e h', h2, h4⟩
  stop := fun g' H' e i hi => ⟨ws, us, StT.ext w e h, StT.ext w e h', by rw [zipF_len] at hi; rw [← q.length, ← q'.length]; omega⟩
  yld := fun g' H' e i x H'' hi y => by
    obtain ⟨p, x', y', rfl, hp, rfl, k1, k2⟩ := y
    obtain ⟨v, h1, h2⟩ := (VRs.ext w e _ _ q).get' (k1 ws (StT.ext w e h))
    obtain ⟨v', h3, h4⟩ := (VRs.ext w e _ _ q').get' (k2 us (StT.ext w e h'))
    exact ⟨Add.upd hp, _, zipF_get h1 h3, vr_pair hp h2 h4⟩
end
section
variable {X : Cx} {W : WX} {e e' : Expr} {m m' : M T} {pos p tpos : Pos} {elts : List Expr} {kk : Nat}
theorem i_enum (hg : Gl X "enumerate") (hm : X.mg "enumerate" = none) (ha : SE X W e m) (hs : starEach [e] X.env = [(false, eval e X.env)] := by rfl) (hst : starEach (e :: []) X.env = (false, eval e X.env) :: starEach [] X.env := by rfl) :
    SI X W (.Tuple elts kk tpos) (.Call (.Name "enumerate" p) [e] [] pos) (mEnum m) :=
  ⟨(pi_enumT hg hm (pa_cons ha pa_nil hst) hs).im fun σ H Rr ⟨g, st, r, p⟩ => ⟨g, st, r, PstI.bind (RelA := TR X.K) Ext.refl p fun g2 w H2 t st2 e2 _ r2 q2 p2 => by
    cases h1 : mTake t st2 with
    | exc x s => exact (take_noexc h1).elim
    | bad => rw [h1] at p2; exact p2.elim
    | ok v s =>
      rw [h1] at p2
      obtain ⟨g3, e3, r3, v3, _, _⟩ := take_ok e2 r2 q2.tw h1
      cases v with
      | tup vs =>
        unfold VR at v3
        obtain ⟨a, ws, rfl, k2, k3⟩ := v3
        exact ⟨a, ws, rfl, .inr ⟨SqT.of k2, p2 g3 H2 _ e3 r3 (.enumT r3.wf (.inl k2) k3)⟩⟩
      | lst vs =>
        unfold VR at v3
        obtain ⟨a, ws, rfl, k1, k2, k3⟩ := v3
        exact ⟨a, ws, rfl, .inl ⟨SqL.of k2, p2 g3 H2 _ e3 r3 (.enumL r3.wf (.inl ⟨k1, .inl k2⟩) k3)⟩⟩
      | _ => exact p2.elim⟩⟩
theorem i_zip (hg : Gl X "zip") (hm : X.mg "zip" = none) (ha : SE X W e m) (hb : SE X W e' m') (hs : starEach [e, e'] X.env = [(false, eval e X.env), (false, eval e' X.env)] := by rfl)
    (hst : starEach (e :: [e']) X.env = (false, eval e X.env) :: starEach [e'] X.env := by rfl) (hst2 : starEach (e' :: []) X.env = (false, eval e' X.env) :: starEach [] X.env := by rfl) (hpl : (backTo pos (starEach [e'] X.env)).any (·.1) = false := by rfl) :
    SI X W (.Tuple elts kk tpos) (.Call (.Name "zip" p) [e, e'] [] pos) (mZip m m') :=
  ⟨(RZ.pi_zipA hg hm (pa_cons ha (pa_cons hb pa_nil hst2) hst) hst hpl).im fun σ H Rr ⟨g, st, r, p⟩ => ⟨g, st, r, PstI.bind (RelA := TR X.K) Ext.refl p fun g2 w H2 t st2 e2 _ r2 q2 p2 => ⟨g2, st2, r2, PstI.bind (RelA := TR X.K) e2 p2 fun g3 w3 H3 t3 st3 e3 e3' r3 q3 p3 => by
    have q2' := TR.rel.ext r2.wf e3' q2
    cases h1 : mTake t st3 with
    | exc x s => exact (take_noexc h1).elim
    | bad => rw [h1] at p3; exact p3.elim
    | ok v s =>
      rw [h1] at p3
      obtain ⟨g4, e4, r4, v4, l4, _⟩ := take_ok e3 r3 q2'.tw h1
      have q3' := TW.le l4 (TR.rel.sh e2 q3).tw
      simp only [Out.bind] at p3
      cases h2 : mTake t3 s with
      | exc x s => exact (take_noexc h2).elim
      | bad => rw [h2] at p3; exact p3.elim
      | ok v' s' =>
        rw [h2] at p3
        obtain ⟨g5, e5, r5, v5, l5, _⟩ := take_ok e4 r4 q3' h2
        have v4 := VR.le l5 _ _ v4
        cases v with
        | tup as => cases v' with
          | tup bs =>
            unfold VR at v4 v5
            obtain ⟨a, ws, rfl, k2, k3⟩ := v4
            obtain ⟨b, us, rfl, k4, k5⟩ := v5
            exact ⟨a, b, ws, us, rfl, .inr ⟨SqT.of k2, SqT.of k4, p3 g5 H3 _ e5 r5 (.zipT r5.wf (.inl k2) k3 (.inl k4) k5)⟩⟩
          | _ => exact p3.elim
        | lst as => cases v' with
          | lst bs =>
            unfold VR at v4 v5
            obtain ⟨a, ws, rfl, k1, k2, k3⟩ := v4
            obtain ⟨b, us, rfl, k4, k5, k6⟩ := v5
            exact ⟨a, b, ws, us, rfl, .inl ⟨SqL.of k2, SqL.of k5, p3 g5 H3 _ e5 r5 (.zipL r5.wf (.inl ⟨k1, .inl k2⟩) k3 (.inl ⟨k4, .inl k5⟩) k6)⟩⟩
          | _ => exact p3.elim
        | _ => exact p3.elim⟩⟩⟩
end
/-! ### defs -/
def mBody (n : Nat) (m : M Fl) : MF := fun vs hp => match m ⟨hp, vs.map .val ++ List.replicate (n - vs.length) .no⟩ with
  | .ok .nx s => .ok (.val .non) ⟨s.hp, []⟩
  | .ok (.ret t) s => .ok t ⟨s.hp, []⟩
  | .ok _ _ => .bad
  | .exc e s => .exc e ⟨s.hp, []⟩
  | .bad => .bad
theorem start_get {N : List Str} {ws : List V} {vs : List Val} (hl : vs.length = ws.length) : (vs.map Sl.val ++ List.replicate (N.length - vs.length) Sl.no).length = (L2.start N ws).length := by
  unfold L2.start
  rw [List.length_append, List.length_append, List.length_map, List.length_map, List.length_replicate, List.length_replicate, hl]
theorem RH.begin {K : PySem.W.Frag} {g : G} {hp : List Ob} {H : Hp} {vs : List Val} {ws : List V} {N : List Str} (r : RH K g hp H) (hO : ∀ i, g.O i = none) (h : VRs K g H vs ws) : R K g ⟨hp, vs.map .val ++ List.replicate (N.length - vs.length) .no⟩ (L2.start N ws) H where
  toRH := r
  len := start_get h.length
  vl := fun i v e => by
    have e : (vs.map Sl.val ++ List.replicate (N.length - vs.length) Sl.no)[i]? = some (Sl.val v) := e
    by_cases hi : i < vs.length
    · rw [List.getElem?_append_left (by rw [List.length_map]; exact hi), List.getElem?_map] at e
      cases q : vs[i]? with
      | none => rw [q] at e; cases e
      | some u =>
        rw [q] at e
        cases e
        obtain ⟨w, h1, h2⟩ := h.get q
        refine ⟨w, ?_, h2⟩
        unfold L2.start
        rw [List.getElem?_append_left (by rw [List.length_map, ← h.length]; exact hi), List.getElem?_map, h1]
        rfl
    · rw [List.getElem?_append_right (by rw [List.length_map]; omega), List.getElem?_replicate] at e
      split at e <;> cases e
  ow := fun i us e => by
    have e : (vs.map Sl.val ++ List.replicate (N.length - vs.length) Sl.no)[i]? = some (Sl.own us) := e
    by_cases hi : i < vs.length
    · rw [List.getElem?_append_left (by rw [List.length_map]; exact hi), List.getElem?_map] at e
      cases q : vs[i]? with
      | none => rw [q] at e; cases e
      | some u => rw [q] at e; cases e
    · rw [List.getElem?_append_right (by rw [List.length_map]; omega), List.getElem?_replicate] at e
      split at e <;> cases e
  oi := fun i a e => by rw [hO i] at e; cases e
  oinj := fun i j a e _ => by rw [hO i] at e; cases e
theorem body_ok {K : PySem.W.Frag} {mg : Str → Option Value} {n : Nat} {N : List Str} {m : M Fl} {ws : List V} {H : Hp} {Q : VK} {E : XK} (h : spM K mg n (mBody N.length m) ws H Q E) :
    sS K mg (fun cls d _ H => E cls d H) m { nx := fun _ H' => Q .non H', rt := Q } (L2.start N ws) H := by
  obtain ⟨g, hp, vs, _, hO, r, v, p⟩ := h
  refine ⟨g, _, r.begin hO v, ?_⟩
  unfold mBody at p
  have cut : ∀ {g' : G} {H' : Hp}, Ext g H g' H' → Ext g H g'.cut H' := fun e => e.O fun i a z => nomatch z
  cases hm : m ⟨hp, vs.map .val ++ List.replicate (N.length - vs.length) .no⟩ with
  | bad => rw [hm] at p; exact p
  | exc x s =>
    rw [hm] at p
    exact fun g' cls d σ' H' e' r' x' => p _ cls d H' (cut e') (fun _ => rfl) (r'.toRH.O _) x'.O
  | ok f s =>
    rw [hm] at p
    cases f with
    | brk => exact p.elim
    | cnt => exact p.elim
    | nx => exact fun g' σ' H' e' r' => p _ .non H' (cut e') (fun _ => rfl) (r'.toRH.O _) (by show VR _ _ _ _ _; exact vr_non)
    | ret t =>
      intro g' w σ' H' e' r' t' nl
      refine p _ w H' (cut e') (fun _ => rfl) (r'.toRH.O _) ?_
      cases t with
      | val u => exact VR.O _ (show VR K g' H' u w from t')
      | loc i => exact (nl i rfl).elim
      | own us =>
        obtain ⟨a, xs, h1, h2, h3, h4, h5, h6, h7⟩ := t'
        exact ⟨a, xs, h1, h2, h3.O _, h4, h5, fun i z => (nomatch z), h7⟩
section
variable {P : Program} {w : World} {K : PySem.W.Frag} {mg : Str → Option Value} {base : Heap} {x qual : Str} {params : Arguments} {body : List Stmt} {scope : Scope} {dvs : List V} {kws : List (Str × V)} {f : Addr} {fd : FuncData}
/-- THE RULE for a def -/
theorem def_ok {N ps : List Str} {k : Nat} {m : M Fl} (F : FunD K x qual params body scope dvs kws f fd) (S : FnScope N ps scope)
    (hb : ∀ (cdv : Value) (A : Around) (outer : List Env) (s : Shared) (H : Hp) (E : XK), Room k (A.deeper (PyProof.Rows.envOfC qual scope s.heap.objs.size f cdv)) →
      Takes (cxOf (L2.CX P w) P w K mg base N qual scope f cdv A outer s H E) (fun cls d _ H => E cls d H) →
      SSs (cxOf (L2.CX P w) P w K mg base N qual scope f cdv A outer s H E) (fun cls d _ H => E cls d H) body m) : FnOk P w K mg base (L2.CX P w) (k + 1) f fd ps (spM K mg ps.length (mBody N.length m)) :=
  F.ok S (fun vs H Q E h => spM.len h) fun cdv A outer s H vs Q E hr h => ⟨_, hb cdv A outer s H E hr (takes_of rfl rfl rfl rfl), body_ok h⟩
/-- a def that is not called at this depth -/
theorem def_bad {ps : List Str} {k n : Nat} (hl : n = ps.length) : FnOk P w K mg base (L2.CX P w) k f fd ps (spM K mg n fun _ _ => .bad) :=
  ⟨fun vs H Q E h => by rw [spM.len h, hl], fun A outer s H args us vs Q E hr e0 hb hv hs => by obtain ⟨g, hp, ws, _, _, _, _, p⟩ := hs; exact p.elim⟩
/-- the law's own end: the script -/
theorem law_sp {mf : MF} {H : Hp} {a : Addr} {ns : List Int} (ht : LamX.Tabs (tbl K) H) (hS : SqL K H a (ns.map V.int)) (h : ∃ s, mf [.scr (ns.map .int)] [] = .ok (.val (.bl true)) s) : spM K mg 1 mf [.ref a] H (fun v _ => v = .bl true) fun _ _ _ => False := by
  obtain ⟨s, h⟩ := h
  refine ⟨⟨fun _ => none, fun b => b = a ∧ ¬ H a = none, fun _ => none⟩, [], [.scr (ns.map .int)], rfl, fun _ => rfl, ⟨fun n a e => (nomatch e), fun n o e => (by simp at e), fun n m a e => (nomatch e), fun n a e => (nomatch e), fun b h z => (by rw [h.1] at z; exact h.2 z), ht⟩, ?_, ?_⟩
  · refine VRs.cons ?_ VRs.nil
    unfold VR
    refine ⟨a, ns.map V.int, rfl, ?_, ?_⟩
    · rcases hS with hS | hS
      · refine .inl ⟨⟨rfl, fun z => ?_⟩, hS⟩
        rcases hS with hS | ⟨o, hS⟩
        · rw [z] at hS; cases hS
        · rw [z] at hS; cases hS
      · exact .inr hS
    · have : ∀ (g : G) (ns : List Int), VRs K g H (ns.map .int) (ns.map V.int) := fun g ns => by
        induction ns with
        | nil => exact VRs.nil
        | cons n ns ih => exact VRs.cons vr_int ih
      exact this _ _
  · show FPst _ _ _ _ _ _ _
    rw [h]
    intro g' w H' _ _ _ t
    have t : VR K g' H' (.bl true) w := t
    unfold VR at t
    exact t
end
end Sm

namespace Sm
open PySem L2
section
variable {X : Cx} {W : WX} {a b e : Expr} {rest : List Expr} {ma mb m : M T} {pos p : Pos}
theorem s_gi {x : Str} {i : Int} (hg : Gl X x) (hm : ∃ t, X.mg x = some (.int i t)) (hd : (x == ("__debug__" : Str)) = false := by decide) : SE X W (.Name x pos) (mC (.int i)) := by
  obtain ⟨t, hm⟩ := hm
  exact s_glob (w := .int i) hg hm ⟨t, rfl⟩ (fun g H => by unfold VR; rfl) hd
theorem s_gs {x i : Str} (hg : Gl X x) (hm : ∃ t, X.mg x = some (.str i t)) (hd : (x == ("__debug__" : Str)) = false := by decide) : SE X W (.Name x pos) (mC (.str i)) := by
  obtain ⟨t, hm⟩ := hm
  exact s_glob (w := .str i) hg hm ⟨t, rfl⟩ (fun g H => by unfold VR; rfl) hd
theorem tr_bl {K : PySem.W.Frag} {g0 g : G} {H0 H : Hp} {σ : L2.St} {b : Bool} : TR K g0 H0 g H σ (.val (.bl b)) (.bl b) := vr_bl (K := K) (g := g) (H := H)
/-! and, or, not of True and False as values -/
def mNotV (ma : M T) : M T := fun st => (ma st).bind fun t st1 => (asB (view t st1) st1).bind fun k st2 => .ok (.val (.bl (!k))) st2
def mAndV (ma mb : M T) : M T := fun st => (ma st).bind fun t st1 => (asB (view t st1) st1).bind fun k st2 => if k = true then mb st2 else .ok (.val (.bl false)) st2
def mOrV (ma mb : M T) : M T := fun st => (ma st).bind fun t st1 => (asB (view t st1) st1).bind fun k st2 => if k = true then .ok (.val (.bl true)) st2 else mb st2
theorem asB_ok2 {g0 g1 : G} {H0 H1 : Hp} {st1 : MS} {σ : L2.St} {t : T} {w : V} (r : R X.K g1 st1 σ H1) (q1 : TR X.K g0 H0 g1 H1 σ t w) : (∃ i, asB (view t st1) st1 = .ok i st1 ∧ w = .bl i) ∨ asB (view t st1) st1 = .bad := by
  cases ev : view t st1 with
  | none => exact .inr rfl
  | some v =>
    have z := view_ok r q1 ev
    cases v with
    | bl i => unfold Vw VR at z; exact .inl ⟨i, rfl, z⟩
    | _ => exact .inr rfl
theorem s_not (ha : SE X W a ma) : SE X W (.UnaryOp .Not a pos) (mNotV ma) := (pe_not ha).im fun σ H Q ⟨g, st, r, p⟩ => ⟨g, st, r, Pst.bind (RelA := TR X.K) Ext.refl p fun g2 w H2 t st2 e2 _ r2 q2 p2 => by
  rcases asB_ok2 r2 q2 with ⟨k, hk, rfl⟩ | hk
  · rw [hk] at p2; exact ⟨k, rfl, p2 g2 _ H2 e2 r2 tr_bl⟩
  · rw [hk] at p2; exact p2.elim⟩
theorem s_b1 {op} (ha : SE X W a ma) : SE X W (.BoolOp op [a] pos) ma := pe_one ha
theorem s_and (ha : SE X W a ma) (hb : SE X W (.BoolOp .And (b :: rest) pos) mb) : SE X W (.BoolOp .And (a :: b :: rest) pos) (mAndV ma mb) := (pe_and ha hb).im fun σ H Q ⟨g, st, r, p⟩ => ⟨g, st, r, Pst.bind (RelA := TR X.K) Ext.refl p fun g2 w H2 t st2 e2 _ r2 q2 p2 => by
  rcases asB_ok2 r2 q2 with ⟨k, hk, rfl⟩ | hk
  · rw [hk] at p2
    refine ⟨k, rfl, ?_⟩
    cases k with
    | true => exact iteT ⟨g2, st2, r2, Pst.sh (g := g) (H := H) (TR.rel.sh e2) e2 p2⟩
    | false => exact iteF (p2 g2 _ H2 e2 r2 tr_bl)
  · rw [hk] at p2; exact p2.elim⟩
theorem s_or (ha : SE X W a ma) (hb : SE X W (.BoolOp .Or (b :: rest) pos) mb) : SE X W (.BoolOp .Or (a :: b :: rest) pos) (mOrV ma mb) := (pe_or ha hb).im fun σ H Q ⟨g, st, r, p⟩ => ⟨g, st, r, Pst.bind (RelA := TR X.K) Ext.refl p fun g2 w H2 t st2 e2 _ r2 q2 p2 => by
  rcases asB_ok2 r2 q2 with ⟨k, hk, rfl⟩ | hk
  · rw [hk] at p2
    refine ⟨k, rfl, ?_⟩
    cases k with
    | false => exact iteF ⟨g2, st2, r2, Pst.sh (g := g) (H := H) (TR.rel.sh e2) e2 p2⟩
    | true => exact iteT (p2 g2 _ H2 e2 r2 tr_bl)
  · rw [hk] at p2; exact p2.elim⟩
/-! list(range(n)) -/
def mLRng (m : M T) : M T := fun st => (m st).bind fun t st1 => (asI (view t st1) st1).bind fun j st2 => if 0 ≤ j ∧ j ≤ 16777216 then .ok (.own (intR 0 j.toNat)) st2 else .bad
theorem intR_vrs {K : PySem.W.Frag} {g : G} {H : Hp} {b : Int} : VRs K g H (intR 0 b.toNat) (rgV 0 b) := by
  unfold intR rgV
  rw [Int.sub_zero]
  have : ∀ l : List Nat, VRs K g H (l.map fun i => .int (0 + (i : Nat))) (l.map fun i => V.int (0 + (i : Nat))) := fun l => by
    induction l with
    | nil => exact VRs.nil
    | cons x l ih => exact VRs.cons vr_int ih
  exact this _
theorem s_lrng {p2 pos2 : Pos} (hc : X.calm = true) (hg : Gl X "list") (hm : X.mg "list" = none) (hg2 : Gl X "range") (hm2 : X.mg "range" = none) (he : SE X W e m)
    (na : starEach [e] X.env = (false, eval e X.env) :: starEach [] X.env := by rfl) (na2 : starEach [(Expr.Call (.Name "range" p2) [e] [] pos2)] X.env = (false, eval (Expr.Call (.Name "range" p2) [e] [] pos2) X.env) :: starEach [] X.env := by rfl) :
    SE X W (.Call (.Name "list" p) [.Call (.Name "range" p2) [e] [] pos2] [] pos) (mLRng m) := (pe_listRg hc hg hm (prg_1 hg2 hm2 he na) na2).im fun σ H Q ⟨g, st, r, p⟩ => ⟨g, st, r, Pst.bind (RelA := TR X.K) Ext.refl p fun g2 w H2 t st2 e2 _ r2 q2 p2 => by
  rcases asI_ok r2 q2 with ⟨j, hj, rfl⟩ | hj
  · rw [hj] at p2
    by_cases hb : 0 ≤ j ∧ j ≤ 16777216
    · simp only [Out.bind, if_pos hb] at p2
      refine ⟨j, rfl, RgOk.of_le (Int.le_refl _) hb.2 (by omega) hb.1, fun q hq => ?_⟩
      have d : Add H2 (upd H2 q (.lst (rgV 0 j))) := Add.upd hq
      exact p2 g2 _ _ (e2.trans d.ext) (r2.add d) ⟨q, _, rfl, upd_same, intR_vrs, fun z => r2.sa q z hq, r2.wf.no_rho hq, r2.wf.no_O hq, .inl (e2.nn q hq)⟩
    · simp only [Out.bind, if_neg hb] at p2
      exact p2.elim
  · rw [hj] at p2; exact p2.elim⟩
end
/-! ### sorted of ints -/
def insI (x : Int) : List Int → List Int
  | [] => [x]
  | y :: ys => if x ≤ y then x :: y :: ys else y :: insI x ys
def sortI : List Int → List Int
  | [] => []
  | x :: xs => insI x (sortI xs)
theorem insI_perm (x : Int) : ∀ ys : List Int, (insI x ys).Perm (x :: ys)
  | [] => .refl _
  | y :: ys => by
    unfold insI
    split
    · exact .refl _
    · exact ((insI_perm x ys).cons y).trans (.swap ..)
theorem sortI_perm : ∀ xs : List Int, (sortI xs).Perm xs
  | [] => .refl _
  | x :: xs => (insI_perm x _).trans ((sortI_perm xs).cons x)
theorem insI_pair (x : Int) : ∀ {ys : List Int}, ys.Pairwise (· ≤ ·) → (insI x ys).Pairwise (· ≤ ·)
  | [], _ => by unfold insI; simp
  | y :: ys, h => by
    unfold insI
    rw [List.pairwise_cons] at h
    split
    · rename_i hxy
      rw [List.pairwise_cons]
      refine ⟨fun z hz => ?_, List.pairwise_cons.mpr h⟩
      rcases List.mem_cons.mp hz with rfl | hz
      · exact hxy
      · exact Int.le_trans hxy (h.1 z hz)
    · rename_i hxy
      rw [List.pairwise_cons]
      refine ⟨fun z hz => ?_, insI_pair x h.2⟩
      have hz := (insI_perm x ys).mem_iff.mp hz
      rcases List.mem_cons.mp hz with rfl | hz
      · omega
      · exact h.1 z hz
theorem sortI_pair : ∀ xs : List Int, (sortI xs).Pairwise (· ≤ ·)
  | [] => .nil
  | x :: xs => insI_pair x (sortI_pair xs)
theorem sorted_uniq {xs ys : List Int} (p : xs.Perm ys) (hx : xs.Pairwise (· ≤ ·)) (hy : ys.Pairwise (· ≤ ·)) : xs = ys := List.Perm.eq_of_pairwise (fun a b _ _ h1 h2 => Int.le_antisymm h1 h2) hx hy p
def fSorted : List Val → Option T
  | [.lst vs] => (intsOf vs).map fun ns => .own ((sortI ns).map .int)
  | _ => none
theorem VRs.ints {K : PySem.W.Frag} {g : G} {H : Hp} : ∀ ns : List Int, VRs K g H (ns.map .int) (ns.map V.int)
  | [] => VRs.nil
  | n :: ns => VRs.cons vr_int (VRs.ints ns)
theorem p_sorted {K : PySem.W.Frag} : PC K (rSortedI K) fSorted := by
  intro g H vs ws t Q wf h e q
  unfold fSorted at e
  split at e
  · rw [Option.map_eq_some_iff] at e
    obtain ⟨ns, e1, rfl⟩ := e
    cases h with | cons h1 h2 => ?_
    cases h2
    obtain ⟨a, us, rfl, k1, k2⟩ := vw_lst h1
    cases intsOf_ok k2 e1
    refine ⟨a, ns, rfl, SqL.of k1, fun ns' p hp hs hn => ?_⟩
    have : ns' = sortI ns := sorted_uniq (hp.trans (sortI_perm ns).symm) hs (sortI_pair ns)
    subst this
    exact q _ _ (Add.upd hn) (newLst wf (VRs.ints _) hn)
  · cases e
/-! ### all -/
def boolsOf : List Val → Option (List Bool)
  | [] => some []
  | .bl i :: vs => (boolsOf vs).map (i :: ·)
  | _ => none
theorem boolsOf_ok {K : PySem.W.Frag} {g : G} {H : Hp} : ∀ {vs : List Val} {ws : List V} {ns : List Bool}, VRs K g H vs ws → boolsOf vs = some ns → ws = ns.map V.bl
  | [], ws, ns, h, e => by unfold VRs at h; subst h; cases e; rfl
  | v :: vs, ws, ns, h, e => by
    unfold VRs at h
    obtain ⟨w, r, rfl, h1, h2⟩ := h
    cases v with
    | bl i =>
      unfold boolsOf at e
      rw [Option.map_eq_some_iff] at e
      obtain ⟨ms, e1, rfl⟩ := e
      unfold VR at h1
      rw [h1, boolsOf_ok h2 e1]
      rfl
    | _ => cases e
def fAllB : List Val → Option T
  | [.lst vs] => (boolsOf vs).map fun ns => .val (.bl (ns.all id))
  | _ => none
theorem p_all {K : PySem.W.Frag} : PC K (rAll K) fAllB := by
  intro g H vs ws t Q wf h e q
  unfold fAllB at e
  split at e
  · rw [Option.map_eq_some_iff] at e
    obtain ⟨ns, e1, rfl⟩ := e
    cases h with | cons h1 h2 => ?_
    cases h2
    obtain ⟨a, us, rfl, k1, k2⟩ := vw_lst h1
    cases boolsOf_ok k2 e1
    exact ⟨a, ns, rfl, SqL.of k1, q _ _ .refl rr_bl⟩
  · cases e
/-! ### a def as a whole -/
structure DOk (P : Program) (w : World) (K : PySem.W.Frag) (mg : Str → Option Value) (base : Heap) (k : Nat) (x : Str) (n : Nat) (ps : List Str) (mf : MF) : Prop where
  ex : ∃ f fd, mg x = some (.ref f) ∧ FnOk P w K mg base (L2.CX P w) k f fd ps (spM K mg n mf) ∧ PySem.W.keepIn K (.ref f) = true ∧ Binds K fd ps []
section
variable {P : Program} {w : World} {K : PySem.W.Frag} {mg : Str → Option Value} {base : Heap} {x qual : Str} {params : Arguments} {body : List Stmt} {scope : Scope} {dvs : List V} {kws : List (Str × V)} {f : Addr} {fd : FuncData}
theorem DOk.mk2 {N ps : List Str} {k n : Nat} {m : M Fl} (F : ∃ f fd, mg x = some (.ref f) ∧ FunD K x qual params body scope dvs kws f fd) (S : FnScope N ps scope) (hbd : ∀ {f fd}, FunD K x qual params body scope dvs kws f fd → Binds K fd ps [])
    (hb : ∀ (cdv : Value) (A : Around) (outer : List Env) (s : Shared) (H : Hp) (E : XK) {f : Addr}, Room k (A.deeper (PyProof.Rows.envOfC qual scope s.heap.objs.size f cdv)) →
      Takes (cxOf (L2.CX P w) P w K mg base N qual scope f cdv A outer s H E) (fun cls d _ H => E cls d H) →
      SSs (cxOf (L2.CX P w) P w K mg base N qual scope f cdv A outer s H E) (fun cls d _ H => E cls d H) body m) (hn : ps.length = n := by rfl) : DOk P w K mg base (k + 1) x n ps (mBody N.length m) := by
  subst hn
  obtain ⟨f, fd, hm, F⟩ := F
  exact ⟨f, fd, hm, def_ok F S fun cdv A outer s H E hr tk => hb cdv A outer s H E hr tk, F.kp, hbd F⟩
theorem DOk.bad {ps : List Str} {k n : Nat} (F : ∃ f fd, mg x = some (.ref f) ∧ FunD K x qual params body scope dvs kws f fd) (hn : n = ps.length) (hbd : ∀ {f fd}, FunD K x qual params body scope dvs kws f fd → Binds K fd ps []) :
    DOk P w K mg base k x n ps fun _ _ => .bad := by
  obtain ⟨f, fd, hm, F⟩ := F
  exact ⟨f, fd, hm, def_bad hn, F.kp, hbd F⟩
end
theorem s_callD {X : Cx} {W : WX} {k n : Nat} {ps : List Str} {mf : MF} {x : Str} {p pos : Pos} {e : Expr} {es : List Expr} {ms : M (List T)} (tk : Takes X W) (D : DOk X.prog X.w X.K X.mg X.base k x n ps mf) (hr : Room k X.A) (hg : Gl X x)
    (ha : SA X W (e :: es) ms) (hdb : (x == ("__debug__" : Str)) = false := by decide) (he : starEach (e :: es) X.env = (false, eval e X.env) :: starEach es X.env := by rfl) (hpl : (backTo pos (starEach es X.env)).any (·.1) = false := by rfl) :
    SE X W (.Call (.Name x p) (e :: es) [] pos) (mCall n mf ms) := by
  obtain ⟨f, fd, hm, F, hk, hb⟩ := D.ex
  exact s_call tk F hr hg hm hk hb ha hdb he hpl
end Sm

namespace Sm
open PySem L2
/-! texts: split, join, strip, str, int -/
def strsOf : List Val → Option (List Str)
  | [] => some []
  | .str i :: vs => (strsOf vs).map (i :: ·)
  | _ => none
theorem strsOf_ok {K : PySem.W.Frag} {g : G} {H : Hp} : ∀ {vs : List Val} {ws : List V} {ns : List Str}, VRs K g H vs ws → strsOf vs = some ns → ws = ns.map V.str
  | [], _, _, h, e => by
    cases e
    unfold VRs at h
    exact h
  | v :: vs, _, _, h, e => by
    unfold VRs at h
    obtain ⟨w, r, rfl, h1, h2⟩ := h
    cases v with
    | str x =>
      have e : (strsOf vs).map (x :: ·) = some _ := e
      cases z : strsOf vs with
      | none => rw [z] at e; cases e
      | some ys =>
        rw [z] at e
        cases e
        unfold VR at h1
        rw [h1, strsOf_ok h2 z]
        rfl
    | _ => cases e
def fSplit : Val → List Val → Option T
  | .str a, [.str b] => if (b.length == 0) = false ∧ a.length + 2 ≤ 16777216 then some (.own ((Txt.split a b).map .str)) else none
  | _, _ => none
def fJoin : Val → List Val → Option T
  | .str a, [.lst vs] => (strsOf vs).bind fun ys => if (ys.map (·.length)).sum + ys.length * a.length ≤ 16777216 then some (.val (.str (Txt.join a ys))) else none
  | _, _ => none
def fStrip : Val → List Val → Option T
  | .str a, [.str b] => if a.length ≤ 16777216 then some (.val (.str (Txt.stripChars a b))) else none
  | _, _ => none
def fStr : List Val → Option T
  | [.int i] => if i.natAbs.log2 < 1920 then some (.val (.str (toString i))) else none
  | _ => none
def fInt : List Val → Option T
  | [.str a] => (PySem.intText? a).bind fun n => if a.length ≤ 640 then vI n else none
  | _ => none
theorem p_strip {K : PySem.W.Frag} : PM K (fun x xs H Q => ∃ a b, x = .str a ∧ xs = [.str b] ∧ a.length ≤ sizeLine ∧ Q (.str (Txt.stripChars a b)) H) fStrip := by
  intro g H v w vs ws t Q wf hv h e q
  unfold fStrip at e
  split at e
  · split at e
    · rename_i hz
      cases e
      cases h with | cons h1 h2 => ?_
      cases h2
      unfold Vw VR at hv h1
      exact ⟨_, _, hv, by rw [h1], hz, q _ _ .refl (by unfold RR VR; rfl)⟩
    · cases e
  · cases e
theorem p_join {K : PySem.W.Frag} : PM K (fun x xs H Q => ∃ a p, ∃ ys : List Str, x = .str a ∧ xs = [.ref p] ∧ (SqL K H p (ys.map V.str) ∨ SqT K H p (ys.map V.str)) ∧ (ys.map (·.length)).sum + ys.length * a.length ≤ 16777216 ∧ Q (.str (Txt.join a ys)) H) fJoin := by
  intro g H v w vs ws t Q wf hv h e q
  unfold fJoin at e
  split at e
  · rename_i a us
    cases z : strsOf us with
    | none => rw [z] at e; cases e
    | some ys =>
      rw [z] at e
      have e : (if (ys.map (·.length)).sum + ys.length * a.length ≤ 16777216 then some (T.val (.str (Txt.join a ys))) else none) = some t := e
      split at e
      · rename_i hz
        cases e
        cases h with | cons h1 h2 => ?_
        cases h2
        obtain ⟨p, xs, rfl, k1, k2⟩ := vw_lst h1
        rw [strsOf_ok k2 z] at k1
        unfold Vw VR at hv
        exact ⟨a, p, ys, hv, rfl, .inl (SqL.of k1), hz, q _ _ .refl (by unfold RR VR; rfl)⟩
      · cases e
  · cases e
theorem vrs_strs {K : PySem.W.Frag} {g : G} {H : Hp} (ys : List Str) : VRs K g H (ys.map .str) (ys.map V.str) := by
  induction ys with
  | nil => exact VRs.nil
  | cons y ys ih => exact VRs.cons (by unfold VR; rfl) ih
theorem p_split {K : PySem.W.Frag} : PM K (fun x xs H Q => ∃ a b, x = .str a ∧ xs = [.str b] ∧ (b.length == 0) = false ∧ a.length + 2 ≤ sizeLine ∧ rNewStrs (Txt.split a b) H Q) fSplit := by
  intro g H v w vs ws t Q wf hv h e q
  unfold fSplit at e
  split at e
  · split at e
    · rename_i hz
      cases e
      cases h with | cons h1 h2 => ?_
      cases h2
      unfold Vw VR at hv h1
      refine ⟨_, _, hv, by rw [h1], hz.1, hz.2, fun p hp => q _ _ (Add.upd hp) (newLst wf (vrs_strs _) hp)⟩
    · cases e
  · cases e
theorem p_str {K : PySem.W.Frag} : PC K (fun xs H Q => ∃ i, xs = [.int i] ∧ i.natAbs.log2 < 1920 ∧ Q (.str (toString i)) H) fStr := by
  intro g H vs ws t Q wf h e q
  unfold fStr at e
  split at e
  · split at e
    · rename_i hz
      cases e
      cases h with | cons h1 h2 => ?_
      cases h2
      unfold Vw VR at h1
      exact ⟨_, by rw [h1], hz, q _ _ .refl (by unfold RR VR; rfl)⟩
    · cases e
  · cases e
theorem p_int {K : PySem.W.Frag} : PC K (fun xs H Q => ∃ a n, xs = [.str a] ∧ PySem.intText? a = some n ∧ a.length ≤ 640 ∧ Q (.int n) H) fInt := by
  intro g H vs ws t Q wf h e q
  unfold fInt at e
  split at e
  · rename_i a
    cases z : PySem.intText? a with
    | none => rw [z] at e; cases e
    | some n =>
      rw [z] at e
      have e : (if a.length ≤ 640 then vI n else none) = some t := e
      split at e
      · rename_i hz
        cases e
        cases h with | cons h1 h2 => ?_
        cases h2
        unfold Vw VR at h1
        exact ⟨_, n, by rw [h1], z, hz, q _ _ .refl rr_int⟩
      · cases e
  · cases e
/-! x in a list, of data of any depth -/
def inD (v : Val) (vs : List Val) : Bool := vs.any fun z => vEq z v
def fInD (neg : Bool) (v u : Val) : Option T := match u with
  | .lst vs => if dat 64 v = true ∧ dat 64 (.lst vs) = true then vB (if neg then !inD v vs else inD v vs) else none
  | _ => none
theorem toDs_any (v : Val) (vs : List Val) : (toDs vs).any (fun z => PyData.eqv z (toD v)) = inD v vs := by
  induction vs with
  | nil => unfold toDs inD; rfl
  | cons x vs ih =>
    unfold toDs
    unfold inD at ih ⊢
    rw [List.any_cons, List.any_cons, ih]
    rfl
theorem toD_lst (vs : List Val) : toD (.lst vs) = .list (toDs vs) := by
  rw [toD]
theorem p_inD {K : PySem.W.Frag} : P2 K (rInD K) (fInD false) := by
  intro g H v1 v2 w1 w2 t Q wf h1 h2 e q
  unfold fInD at e
  split at e
  · rename_i vs
    split at e
    · rename_i hz
      cases e
      have d2 := dat_dpV hz.2 h2
      have s2 := dat_shaped hz.2
      rw [toD_lst] at d2 s2
      refine ⟨_, _, dat_dpV hz.1 h1, d2, dat_shaped hz.1, s2, ?_⟩
      rw [toDs_any]
      exact q _ _ .refl rr_bl
    · cases e
  · cases e
theorem p_notInD {K : PySem.W.Frag} : P2 K (rNotInD K) (fInD true) := by
  intro g H v1 v2 w1 w2 t Q wf h1 h2 e q
  unfold fInD at e
  split at e
  · rename_i vs
    split at e
    · rename_i hz
      cases e
      have d2 := dat_dpV hz.2 h2
      have s2 := dat_shaped hz.2
      rw [toD_lst] at d2 s2
      refine ⟨_, _, dat_dpV hz.1 h1, d2, dat_shaped hz.1, s2, ?_⟩
      rw [toDs_any]
      exact q _ _ .refl rr_bl
    · cases e
  · cases e
theorem hu65_of {k : Nat} {A : Around} (r : Room k A) : A.units + 65 < cLine := by have := r.un; omega
end Sm

namespace Sm
section
open PySem PySem.Spec PyProof.Rows L2
theorem no_exc {P : Program} {w : World} {H : Hp} {s : Shared} {e : Value} {s' : Shared} (h : L2.CX P w [] H s (fun _ _ _ => False) e s') : False := by
  obtain ⟨_, _, _, _, _, _, _, _, _, _, _, _, z⟩ := h
  exact z.elim
end
end Sm

namespace L2
open PySem PySem.Spec PyProof.Rows
section
variable {X : Cx} {pos : Pos}
/-- o.f = .. as a target -/
def gFld (K : PySem.W.Frag) (to : TE) (f : Str) : TG := fun v σ H Q => to σ H fun x H2 => ∃ a C dx fs, x = .ref a ∧ H2 a = some (.ins C dx fs) ∧ Cls K C ∧ NoAttr K C f ∧ fs.length < 1000 ∧ Q σ (upd H2 a (.ins C dx (putF f v fs)))
theorem pg_fld {o : Expr} {f : Str} {to : TE} (ho : PE X o to) : PG X (.Attribute o f pos) (gFld X.K to f) := by
  refine ⟨fun pins s σ H v u Q I r h => ?_⟩
  rw [assign_Attribute]
  refine wpAny_bind (wpAny_holding (thn (ho.run pins s σ H _ I h) fun ov s1 ⟨x, H1, I1, r1, a, C, dx, fs, ex, ea, c, n, l, q1⟩ => ?_))
  subst ex
  obtain rfl : ov = Value.ref a := r1
  refine wpAny_bind (wpAny_standAt (wpAny_bind (wpAny_holding (setattr_ok I1 ea c n l r fun s3 I3 => ?_))))
  exact wpAny_release ⟨σ, _, I3, q1⟩
/-- xs[i] of a list, by values -/
theorem get_list : PGet X (rIxL X.K) := by
  rintro pins s σ H x y v u Q I rx ry ⟨p, xs, i, z, rfl, rfl, sq, at_, hq⟩
  obtain ⟨its, rel, pl, _⟩ := I.list sq
  obtain ⟨j, e1, e2, _, lo, hi⟩ := atI_get at_
  obtain ⟨w, e3, rw'⟩ := rel.get e2
  obtain rfl : v = .ref p := rx
  obtain ⟨t, rfl⟩ := ry
  have e4 : its.toArray[j]? = some w := by rw [List.getElem?_toArray]; exact e3
  have sz : (its.toArray.size : Int) = xs.length := by rw [List.size_toArray, rel.length]
  have big := line63
  rcases Int.lt_or_le i 0 with neg | pos
  · have ej : j = (i + (its.toArray.size : Int)).toNat := by rw [seqIndex_neg neg lo] at e1; rw [sz]; exact (Option.some.inj e1).symm
    exact wpAny_getItem_list_neg pl.isList neg (by omega) (by omega) (ej ▸ e4) ⟨z, H, I, rw', hq⟩
  · have ej : j = i.toNat := by rw [seqIndex_of pos hi] at e1; exact (Option.some.inj e1).symm
    exact wpAny_getItem_list pl.isList pos (by omega) (ej ▸ e4) ⟨z, H, I, rw', hq⟩
end
end L2
namespace Sm
open PySem L2
/-! ### instances -/
/-- the instance that it is: its place, class, attributes -/
def insAt (t : T) (st : MS) : Option (Nat × Str × List (Str × Val)) := match t with
  | .val (.ref n) => match st.hp[n]? with
    | some (.ins C fs) => some (n, C, fs)
    | _ => none
  | _ => none
abbrev FRs (K : PySem.W.Frag) (g : G) (H : Hp) : List (Str × Val) → List (Str × V) → Prop := Paired (fun (p q : Str × _) => p.1 = q.1 ∧ VR K g H p.2 q.2)
section
variable {K : PySem.W.Frag} {mg : Str → Option Value} {g g0 g1 g2 : G} {H H0 H1 H2 : Hp} {st st1 st2 : MS} {σ : L2.St} {W : WX}
theorem ins_ok {t : T} {w : V} {n : Nat} {C : Str} {fs : List (Str × Val)} (r : R K g1 st1 σ H1) (q : TR K g0 H0 g1 H1 σ t w) (e : insAt t st1 = some (n, C, fs)) :
    ∃ a dx ws, w = .ref a ∧ g1.rho n = some a ∧ H1 a = some (.ins (He.ga K C) dx ws) ∧ FRs K g1 H1 fs ws ∧ st1.hp[n]? = some (.ins C fs) := by
  unfold insAt at e
  split at e
  · rename_i m
    split at e
    · rename_i D fs' hn
      cases e
      obtain ⟨a, h1, dx, ws, h2, h3⟩ := r.ob _ _ hn
      have q : VR K g1 H1 (.ref n) w := q
      unfold VR at q
      obtain ⟨a', k1, rfl⟩ := q
      rw [h1] at k1; cases k1
      exact ⟨a, dx, ws, rfl, h1, h2, h3, hn⟩
    · cases e
  · cases e
theorem FRs.look {f : Str} {v : Val} : ∀ {fs : List (Str × Val)} {ws : List (Str × V)}, FRs K g H fs ws → fs.lookup f = some v → ∃ w, ws.lookup f = some w ∧ VR K g H v w
  | _, _, .nil, e => by simp at e
  | (k, x) :: fs, (k', y) :: ws, .cons h t, e => by
    have hk : k = k' := h.1
    subst hk
    rw [List.lookup_cons] at e ⊢
    cases q : f == k with
    | true => rw [q] at e; cases e; exact ⟨y, rfl, h.2⟩
    | false => rw [q] at e; exact FRs.look t e
theorem FRs.lookN {f : Str} : ∀ {fs : List (Str × Val)} {ws : List (Str × V)}, FRs K g H fs ws → fs.lookup f = none → ws.lookup f = none
  | _, _, .nil, e => rfl
  | (k, x) :: fs, (k', y) :: ws, .cons h t, e => by
    have hk : k = k' := h.1
    subst hk
    rw [List.lookup_cons] at e ⊢
    cases q : f == k with
    | true => rw [q] at e; cases e
    | false => rw [q] at e; exact FRs.lookN t e
def putA (f : Str) (v : Val) : List (Str × Val) → List (Str × Val)
  | [] => [(f, v)]
  | (k, x) :: r => if k = f then (k, v) :: r else (k, x) :: putA f v r
theorem FRs.put {f : Str} {v : Val} {w : V} (h : VR K g H v w) : ∀ {fs : List (Str × Val)} {ws : List (Str × V)}, FRs K g H fs ws → FRs K g H (putA f v fs) (putF f w ws)
  | _, _, .nil => .cons ⟨rfl, h⟩ .nil
  | (k, x) :: fs, (k', y) :: ws, .cons q t => by
    have hk : k = k' := q.1
    subst hk
    unfold putA putF
    by_cases e : k = f
    · rw [if_pos e, if_pos e]; exact .cons ⟨rfl, h⟩ t
    · rw [if_neg e, if_neg e]; exact .cons q (FRs.put h t)
theorem FRs.ext {g' : G} {H' : Hp} (wf : Wf g H) (e : Ext g H g' H') {fs : List (Str × Val)} {ws : List (Str × V)} (h : FRs K g H fs ws) : FRs K g' H' fs ws := prd_map (fun _ _ q => ⟨q.1, VR.ext wf e _ _ q.2⟩) h
/-- a field is stored -/
def putI (C f : Str) (o : T) (v : Val) : M Unit := fun st => match insAt o st with
  | some (n, D, fs) => if D = C ∧ fs.length < 1000 then .ok () { st with hp := st.hp.set n (.ins D (putA f v fs)) } else .bad
  | none => .bad
theorem putI_ok {C f : Str} {o : T} {wo w : V} {v : Val} {g9 : G} {H9 : Hp} {F : Nat → Bool} {Q : L2.St → Hp → Prop} (e : Ext g H g1 H1) (r : R K g1 st1 σ H1) (qo : TR K g9 H9 g1 H1 σ o wo) (qv : VR K g1 H1 v w) 
    (h : GPst K mg W F g H σ (putI C f o v st1) Q) : ∃ a dx fs, wo = .ref a ∧ H1 a = some (.ins (He.ga K C) dx fs) ∧ fs.length < 1000 ∧ Q σ (upd H1 a (.ins (He.ga K C) dx (putF f w fs))) := by
  unfold putI at h
  split at h
  · rename_i n D fs ei
    split at h
    · rename_i hz
      obtain ⟨rfl, hl⟩ := hz
      obtain ⟨a, dx, ws, rfl, h1, h2, h3, h4⟩ := ins_ok r qo ei
      refine ⟨a, dx, ws, rfl, h2, by rw [← Paired.length h3]; exact hl, ?_⟩
      obtain ⟨ex, r2⟩ := r.putHp (o' := .ins D (putA f v fs)) (u := .ins (He.ga K D) dx (putF f w ws)) h1 fun g' H' ex hu => ⟨dx, _, hu, FRs.ext r.wf ex (FRs.put qv h3)⟩
      exact h g1 σ _ (e.trans ex) r2 .refl
    · exact h.elim
  · exact h.elim
end
theorem SPst.take2 {K : PySem.W.Frag} {mg : Str → Option Value} {g g1 : G} {H H1 : Hp} {st1 : MS} {σ : L2.St} {W : WX} {D : Ends} {t : T} {w : V} {k : Val → M Fl} (e : Ext g H g1 H1) (r : R K g1 st1 σ H1) (q : TR K g H g1 H1 σ t w)
    (h : SPst K mg W g H ((mTake t st1).bind k) D) : ∃ g2 st2 v, Ext g H g2 H1 ∧ R K g2 st2 σ H1 ∧ VR K g2 H1 v w ∧ SPst K mg W g H (k v st2) D ∧ Le g1 g2 := by
  cases h1 : mTake t st1 with
  | exc x s => exact (take_noexc h1).elim
  | bad => rw [h1] at h; exact h.elim
  | ok vs s =>
    rw [h1] at h
    obtain ⟨g2, e2, r2, v2, l2, _⟩ := take_ok e r q.tw h1
    exact ⟨g2, s, vs, e2, r2, v2, h, l2⟩
def mFld (C f : Str) (m : M T) : M T := fun st => (m st).bind fun t st1 => match insAt t st1 with
  | some (_, D, fs) => if D = C then outT ((fs.lookup f).map .val) st1 else .bad
  | none => .bad
def mFldSet (C f : Str) (mo mv : M T) : M Fl := fun st => (mv st).bind fun t st1 => (mTake t st1).bind fun v st2 => (mo st2).bind fun o st3 => okU (putI C f o v st3)
def mGFld (C f : Str) (mo : M T) (t : T) : M Unit := fun st => (mTake t st).bind fun v st1 => (mo st1).bind fun o st2 => putI C f o v st2
def mFldAug (C f : Str) (fop : Val → Val → Option T) (mo mv : M T) : M Fl := fun st => (mo st).bind fun o st1 => match insAt o st1 with
  | some (_, D, fs) => if D = C then match fs.lookup f with
    | some x => (mv st1).bind fun t st2 => (vop2 fop (.val x) t st2).bind fun z st3 => (mTake z st3).bind fun v st4 => okU (putI C f o v st4)
    | none => .bad
    else .bad
  | none => .bad
section
variable {X : Cx} {W : WX} {e o value : Expr} {m mo mv : M T} {C f : Str} {pos pos' tpos : Pos}
theorem s_fld (c : Cls X.K (He.ga X.K C)) (na : NoAttr X.K (He.ga X.K C) f) (he : SE X W e m) (hb : attributeBase e f X.env (eval e X.env) = eval e X.env := by rfl) : SE X W (.Attribute e f pos) (mFld C f m) :=
  (pe_fld he hb).im fun σ H Q ⟨g, st, r, p⟩ => ⟨g, st, r, Pst.bind (RelA := TR X.K) Ext.refl p fun g2 w H2 t st2 e2 _ r2 q2 p2 => by
    split at p2
    · rename_i n D fs ei
      split at p2
      · rename_i hD
        subst hD
        obtain ⟨a, dx, ws, rfl, h1, h2, h3, _⟩ := ins_ok r2 q2 ei
        cases hv : fs.lookup f with
        | none => rw [hv] at p2; exact p2.elim
        | some v =>
          rw [hv] at p2
          obtain ⟨w, k1, k2⟩ := h3.look hv
          exact ⟨a, _, dx, ws, w, rfl, h2, c, na, k1, p2 g2 w H2 e2 r2 k2⟩
      · exact p2.elim
    · exact p2.elim⟩
theorem g_fld {F : Nat → Bool} (c : Cls X.K (He.ga X.K C)) (na : NoAttr X.K (He.ga X.K C) f) (ho : SE X W o mo) : SG X W F (.Attribute o f pos) (mGFld C f mo) :=
  (pg_fld ho).im fun w σ H1 Q ⟨g, H, g1, st1, t, e, r, q, p⟩ => by
    have p : GPst X.K X.mg W F g H σ ((mTake t st1).bind fun v st1 => (mo st1).bind fun o st2 => putI C f o v st2) Q := p
    cases h1 : mTake t st1 with
    | exc x s => exact (take_noexc h1).elim
    | bad => rw [h1] at p; exact p.elim
    | ok v s =>
      rw [h1] at p
      obtain ⟨g2, e2, r2, v2, _, _⟩ := take_ok e r q.tw h1
      refine ⟨g2, s, r2, GPst.bind (RelA := TR X.K) e2 p fun g3 wo H3 to st3 e3 e3' r3 q3 p3 => ?_⟩
      obtain ⟨a, dx, fs, j1, j2, j3, j4⟩ := putI_ok e3 r3 q3 (VR.ext r2.wf e3' _ _ v2) p3
      exact ⟨a, _, dx, fs, j1, j2, c, na, j3, j4⟩
theorem k_fld (c : Cls X.K (He.ga X.K C)) (na : NoAttr X.K (He.ga X.K C) f) (ho : SE X W o mo) (hv : SE X W value mv) (hs : swapsWith value (some (.Attribute o f pos')) pos.line X.env = pure false := by rfl) :
    SS X W (.Assign [.Attribute o f pos'] value pos) (mFldSet C f mo mv) := (ps_fld ho hv hs).im fun D σ H ⟨g, st, r, p⟩ => ⟨g, st, r, SPst.bind (RelA := TR X.K) Ext.refl p fun g2 w H2 t st2 e2 _ r2 q2 p2 => by
  obtain ⟨g3, st3, v, e3, r3, v3, p3⟩ := SPst.take e2 r2 q2 p2
  refine ⟨g3, st3, r3, SPst.bind (RelA := TR X.K) e3 p3 fun g4 wo H4 to st4 e4 e4' r4 q4 p4 => ?_⟩
  obtain ⟨a, dx, fs, j1, j2, j3, j4⟩ := putI_ok (F := fAll) e4 r4 q4 (VR.ext r3.wf e4' _ _ v3) p4.gp
  exact ⟨a, _, dx, fs, j1, j2, c, na, j3, j4⟩⟩
theorem k_fldaug {op : Operator} {rel : R2} {fop : Val → Val → Option T} (c : Cls X.K (He.ga X.K C)) (na : NoAttr X.K (He.ga X.K C) f) (hop : InOp X op rel) (hp : P2 X.K rel fop) (ho : SE X W o mo) (hv : SE X W value mv) :
    SS X W (.AugAssign (.Attribute o f tpos) op value pos) (mFldAug C f fop mo mv) := (ps_fldaug ho hv hop).im fun D σ H ⟨g, st, r, p⟩ => ⟨g, st, r, SPst.bind (RelA := TR X.K) Ext.refl p fun g2 w H2 t st2 e2 _ r2 q2 p2 => by
  split at p2
  · rename_i n D' fs ei
    split at p2
    · rename_i hD
      subst hD
      obtain ⟨a, dx, ws, rfl, h1, h2, h3, _⟩ := ins_ok r2 q2 ei
      split at p2
      · rename_i x hx
        obtain ⟨wx, k1, k2⟩ := h3.look hx
        refine ⟨a, _, dx, ws, wx, rfl, h2, c, na, k1, g2, st2, r2, SPst.bind (RelA := TR X.K) e2 p2 fun g3 y H3 ty st3 e3 e3' r3 q3 p3 => ?_⟩
        have kx : TR X.K g2 H2 g3 H3 σ (.val x) wx := VR.ext r2.wf e3' _ _ k2
        refine vop2_ok hp (Ext.refl (g := g3) (H := H3)) r3 kx q3 (SPst.bind (RelA := TR X.K) e3 p3 fun g4 z H4 tz st4 e4 e4' r4 q4 p4 => ?_)
        have q4' : TR X.K g H g4 H4 σ tz z := TR.rel.sh e3 q4
        obtain ⟨g5, st5, v, e5, r5, v5, p5, l5⟩ := SPst.take2 e4 r4 q4' p4
        have qo : TR X.K g2 H2 g5 H4 σ t (.ref a) := by
          have q9 := TR.rel.ext r3.wf e4' (TR.rel.ext r2.wf e3' q2)
          cases t with
          | val u =>
            have q9 : VR X.K g4 H4 u (.ref a) := q9
            show VR X.K g5 H4 u (.ref a)
            exact VR.le l5 _ _ q9
          | _ => cases ei
        obtain ⟨a', dx', fs', j1, j2, j3, j4⟩ := putI_ok (F := fAll) e5 r5 qo v5 p5.gp
        cases j1
        exact ⟨dx', fs', j2, j3, j4⟩
      · exact p2.elim
    · exact p2.elim
  · exact p2.elim⟩
end
end Sm

namespace L2
open PySem PySem.Spec PyProof.Rows
section
variable {CX : CXT} {X : Cx} {E : St → XK} {sp : Sp} {fd : FuncData} {f C : Addr} {k : Nat} {ps : List Str} {x m : Str} {apos p pos : Pos} {o e : Expr} {es : List Expr} {ta : TE} {t : TA}
def tMethE (C : Addr) (m : Str) (sp : Sp) (E : St → XK) (ta : TE) (t : TA) : TE := fun σ H Q => ta σ H fun x H1 => ∃ a dx fs, x = .ref a ∧ H1 a = some (.ins C dx fs) ∧ fs.lookup m = none ∧ t σ H1 fun vs H2 => sp (x :: vs) H2 Q (E σ)
def tMakeE (C : Addr) (sp : Sp) (E : St → XK) (t : TA) : TE := fun σ H Q => t σ H fun vs H1 => ∀ x dx, H1 x = none → H1 dx = none → dx ≠ x →
  sp (.ref x :: vs) (upd (upd H1 dx (.own x)) x (.ins C dx [])) (fun v H2 => v = .non ∧ Q (.ref x) H2) (E σ)
/-- o.m(..): what its text does -/
def MTx (X : Cx) (o : Expr) (m : Str) (as : List Expr) (pos apos : Pos) (pl : Sem Bool) : Prop :=
  eval (.Call (.Attribute o m apos) as [] pos) X.env = eval o X.env >>= fun v => standAt apos.atName >>= fun _ => holding [v] (getMethod v m pl) >>= fun g => callWith pos g.1 g.2 (backTo pos (starEach as X.env)) (backToKw pos (keywordEach [] X.env))
/-- the receiver, then the call of what its class gives -/
theorem meth_at {pl : Sem Bool} {as : List Expr} {pins : List (Addr × Obj)} {σ : St} {H : Hp} {s : Shared} {Q : VK} {Z : V → Hp → Prop} (T : MTx X o m as pos apos pl) (ho : PE X o ta) (c : Cls X.K C) (hm : Meth X.K C m f) (I : Inv X pins σ H s)
    (h : ta σ H fun x H1 => ∃ a dx fs, x = .ref a ∧ H1 a = some (.ins C dx fs) ∧ fs.lookup m = none ∧ Z x H1)
    (go : ∀ (a : Addr) (s1 : Shared) (H1 : Hp), Inv X pins σ H1 s1 → Z (.ref a) H1 → wpAny (model X.prog X.w) X.A (callWith pos (.ref f) [.ref a] (backTo pos (starEach as X.env)) (backToKw pos (keywordEach [] X.env))) (EP X pins σ Q) X.xe s1) :
    wpAny (model X.prog X.w) X.A (eval (.Call (.Attribute o m apos) as [] pos) X.env) (EP X pins σ Q) X.xe s :=
  PySem.W.methodCall_KW (pl := pl) (thn (ho.run pins s σ H _ I h) (by
    rintro v s1 ⟨_, H1, I1, hv, a, dx, fs, rfl, ea, l, z⟩
    cases hv
    exact getmeth_ok I1 ea c hm l (go a s1 H1 I1 z))) T
theorem pe_methE {pl : Sem Bool} (he : PE X o ta) (c : Cls X.K C) (hm : Meth X.K C m f) (F : FnOk X.prog X.w X.K X.mg X.base CX k f fd ps sp) (hr : Room k X.A) (hb : Binds X.K fd ps []) (hx : ∀ σ, PassesAt CX X σ (E σ)) (ha : PA X (e :: es) t)
    (hst : starEach (e :: es) X.env = (false, eval e X.env) :: starEach es X.env) (hpl : (backTo pos (starEach es X.env)).any (·.1) = false) (ht : MTx X o m (e :: es) pos apos pl) :
    PE X (.Call (.Attribute o m apos) (e :: es) [] pos) (tMethE C m sp E ta t) where
  run pins s σ H Q I h := meth_at ht he c hm I h fun a s1 H1 I1 z => PySem.W.callWith_K (first := [.ref a]) I.ok.mod.kin hm.kp (thn (ha.run pos pins s1 σ H1 _ I1 z) fun _ _ ⟨_, _, I2, r, q⟩ => ⟨I2.kIn, run_fnS (vs := .ref a :: _) F hr hb (hx σ) I2 (.cons rfl r) q⟩) hst hpl
theorem pe_methE0 {pl : Sem Bool} (he : PE X o ta) (c : Cls X.K C) (hm : Meth X.K C m f) (F : FnOk X.prog X.w X.K X.mg X.base CX k f fd ps sp) (hr : Room k X.A) (hb : Binds X.K fd ps []) (hx : ∀ σ, PassesAt CX X σ (E σ)) (ht : MTx X o m [] pos apos pl) :
    PE X (.Call (.Attribute o m apos) [] [] pos) (tMethE C m sp E ta tNil) where
  run pins s σ H Q I h := meth_at ht he c hm I h fun a s1 H1 I1 z => PySem.W.callWith_K0 (first := [.ref a]) I1.kIn hm.kp (run_fnS (vs := [.ref a]) F hr hb (hx σ) I1 (.cons rfl .nil) z)
/-- C(..): __init__ on the two new cells -/
theorem run_makeE {pins : List (Addr × Obj)} {σ : St} {H : Hp} {s : Shared} {Q : VK} {us : List Value} {vs : List V} (M : Mk X.K C f) (F : FnOk X.prog X.w X.K X.mg X.base CX k f fd ps sp) (hr : Room (k + 1) X.A) (hb : Binds X.K fd ps [])
    (hx : ∀ σ, PassesAt CX X σ (E σ)) (I : Inv X pins σ H s) (r : Vals vs us)
    (h : ∀ x dx, H x = none → H dx = none → dx ≠ x → sp (.ref x :: vs) (upd (upd H dx (.own x)) x (.ins C dx [])) (fun v H2 => v = .non ∧ Q (.ref x) H2) (E σ)) :
    wpAny (model X.prog X.w) X.A (call (.ref C) us) (EP X pins σ Q) X.xe s := by
  have J := Inv.made (C := C) I
  have hq := h _ _ (I.hok.fresh (Nat.le_add_right _ 1)) (I.hok.fresh (Nat.le_refl _)) (Nat.succ_ne_self _).symm
  have rs := Paired.cons (show RelV (.ref (s.heap.objs.size + 1)) (.ref (s.heap.objs.size + 1)) from rfl) r
  have hbind : BindsTo { s with heap := (s.heap.push PySem.W.emptyDict).push (PySem.W.instObj C s.heap.objs.size) } fd ⟨.ref (s.heap.objs.size + 1) :: us, []⟩ (ps.zip (.ref (s.heap.objs.size + 1) :: us)) := by
    have := hb _ (.ref (s.heap.objs.size + 1) :: us) J.kIn (by rw [List.append_nil, ← rs.length]; exact F.len _ _ _ _ hq)
    rwa [List.append_nil] at this
  have init := F.run _ X.stack _ _ _ _ _ _ _ (hr.make C us []) (J.env0.make C us []) hbind rs hq
  refine wpAny_call (make_map I.kIn M.makes M.init (beq_iff_eq.mp M.fn) (codeAny_mono init fun r s' back => ?_))
  match r, back with
  | .error e, back => exact hx σ pins _ _ e s' J back
  | .ok (.ret u), back =>
    obtain ⟨_, H', I3, rv, rfl, q⟩ := J.after back
    exact ⟨rv, .ref (s.heap.objs.size + 1), H', I3, rfl, q⟩
theorem pe_makeE (M : Mk X.K C f) (F : FnOk X.prog X.w X.K X.mg X.base CX k f fd ps sp) (hr : Room (k + 1) X.A) (hg : Gl X x) (hm : X.mg x = some (.ref C)) (hb : Binds X.K fd ps []) (hx : ∀ σ, PassesAt CX X σ (E σ))
    (ha : PA X (e :: es) t) (hdb : (x == ("__debug__" : Str)) = false) (he : starEach (e :: es) X.env = (false, eval e X.env) :: starEach es X.env) (hpl : (backTo pos (starEach es X.env)).any (·.1) = false) :
    PE X (.Call (.Name x p) (e :: es) [] pos) (tMakeE C sp E t) where
  run pins s σ H Q I h := wpAny_Call_Name_kw (ld_glob I hg hm (PySem.W.callWith_K (h₀ := X.base) I.ok.mod.kin M.kp (thn (ha.run pos pins s σ H _ I h) fun _ _ ⟨_, _, J, r, q⟩ => ⟨J.kIn, run_makeE M F hr hb hx J r q⟩) he hpl) hdb)
/-- f() -/
theorem pe_call0S (F : FnOk X.prog X.w X.K X.mg X.base CX k f fd ps sp) (hr : Room k X.A) (hg : Gl X x) (hm : X.mg x = some (.ref f)) (hk : PySem.W.keepIn X.K (.ref f) = true) (hb : Binds X.K fd ps []) (hx : ∀ σ, PassesAt CX X σ (E σ))
    (hdb : (x == ("__debug__" : Str)) = false := by decide) : PE X (.Call (.Name x p) [] [] pos) (tCallS sp E tNil) where
  run pins s σ H Q I h := wpAny_Call_Name_kw (ld_glob I hg hm (PySem.W.callWith_K0 I.kIn hk (run_fnS F hr hb (hx σ) I .nil h)) hdb)
end
end L2
namespace Sm
open PySem L2
/-! ### methods and makers -/
structure MOk (P : Program) (w : World) (K : PySem.W.Frag) (mg : Str → Option Value) (base : Heap) (k : Nat) (C m : Str) (n : Nat) (ps : List Str) (mf : MF) : Prop where
  ex : ∃ f fd, Meth K (He.ga K C) m f ∧ FnOk P w K mg base (L2.CX P w) k f fd ps (spM K mg n mf) ∧ Binds K fd ps []
structure KOk (P : Program) (w : World) (K : PySem.W.Frag) (mg : Str → Option Value) (base : Heap) (k : Nat) (C : Str) (n : Nat) (ps : List Str) (mf : MF) : Prop where
  ex : ∃ f fd, mg C = some (.ref (He.ga K C)) ∧ Mk K (He.ga K C) f ∧ FnOk P w K mg base (L2.CX P w) k f fd ps (spM K mg n mf) ∧ Binds K fd ps []
def mMeth (C m : Str) (n : Nat) (mf : MF) (mo : M T) (ms : M (List T)) : M T := fun st => (mo st).bind fun o st1 => match insAt o st1 with
  | some (_, D, fs) => if D = C ∧ fs.lookup m = none then (ms st1).bind fun ts st2 => (mTakes (o :: ts) st2).bind fun vs st3 => if vs.length = n then back st3 (mf vs st3.hp) else .bad
    else .bad
  | none => .bad
/-- behind __init__ -/
def made (p : Nat) : Out T → Out T
  | .ok (.val .non) s => .ok (.val (.ref p)) s
  | .exc e s => .exc e s
  | _ => .bad
def mMake (C : Str) (n : Nat) (mf : MF) (ms : M (List T)) : M T := fun st => (ms st).bind fun ts st1 => (mTakes ts st1).bind fun vs st2 =>
  if vs.length + 1 = n then made st2.hp.length (back st2 (mf (.ref st2.hp.length :: vs) (st2.hp ++ [.ins C []]))) else .bad
section
variable {X : Cx} {W : WX} {e o : Expr} {es : List Expr} {mo : M T} {ms : M (List T)} {C m x : Str} {k n : Nat} {ps : List Str} {mf : MF} {p pos apos : Pos}
theorem insAt_bad {t : T} {w : V} {K : PySem.W.Frag} {g g1 g2 : G} {H H1 H2 : Hp} {σ : L2.St} {st : MS} {r : Nat × Str × List (Str × Val)} (e : insAt t st = some r) (q : TR K g H g1 H1 σ t w) : TR K g2 H2 g1 H1 σ t w := by
  cases t with
  | val v => exact q
  | _ => cases e
theorem s_meth {pl : Sem Bool} (tk : Takes X W) (D : MOk X.prog X.w X.K X.mg X.base k C m n ps mf) (c : Cls X.K (He.ga X.K C)) (hr : Room k X.A) (ho : SE X W o mo) (ha : SA X W (e :: es) ms)
    (hst : starEach (e :: es) X.env = (false, eval e X.env) :: starEach es X.env := by rfl) (hpl : (backTo pos (starEach es X.env)).any (·.1) = false := by rfl) (ht : MTx X o m (e :: es) pos apos pl := by rfl) : SE X W (.Call (.Attribute o m apos) (e :: es) [] pos) (mMeth C m n mf mo ms) := by
  obtain ⟨f, fd, hm, F, hb⟩ := D.ex
  refine (pe_methE (E := WE W) ho c hm F hr hb (fun σ => passAt tk σ) ha hst hpl ht).im fun σ H Q ⟨g, st, r, p⟩ => ⟨g, st, r, Pst.bind (RelA := TR X.K) Ext.refl p fun g2 w H2 t st2 e2 _ r2 q2 p2 => ?_⟩
  split at p2
  · rename_i n' D' fs ei
    split at p2
    · rename_i hD
      obtain ⟨rfl, hl⟩ := hD
      obtain ⟨a, dx, ws, rfl, h1, h2, h3, _⟩ := ins_ok r2 q2 ei
      refine ⟨a, dx, ws, rfl, h2, h3.lookN hl, g2, st2, r2, Pst.bind (RelA := TRs X.K) e2 p2 fun g3 ws3 H3 ts st3 e3 e3' r3 q3 p3 => ?_⟩
      exact call_ok e3 r3 (.cons (insAt_bad ei (TR.rel.ext r2.wf e3' q2)) (TRs.rel.sh e2 q3)) p3
    · exact p2.elim
  · exact p2.elim
theorem s_meth0 {pl : Sem Bool} (tk : Takes X W) (D : MOk X.prog X.w X.K X.mg X.base k C m n ps mf) (c : Cls X.K (He.ga X.K C)) (hr : Room k X.A) (ho : SE X W o mo)
    (ht : MTx X o m [] pos apos pl := by rfl) : SE X W (.Call (.Attribute o m apos) [] [] pos) (mMeth C m n mf mo mA0) := by
  obtain ⟨f, fd, hm, F, hb⟩ := D.ex
  refine (pe_methE0 (E := WE W) ho c hm F hr hb (fun σ => passAt tk σ) ht).im fun σ H Q ⟨g, st, r, p⟩ => ⟨g, st, r, Pst.bind (RelA := TR X.K) Ext.refl p fun g2 w H2 t st2 e2 _ r2 q2 p2 => ?_⟩
  split at p2
  · rename_i n' D' fs ei
    split at p2
    · rename_i hD
      obtain ⟨rfl, hl⟩ := hD
      obtain ⟨a, dx, ws, rfl, h1, h2, h3, _⟩ := ins_ok r2 q2 ei
      refine ⟨a, dx, ws, rfl, h2, h3.lookN hl, ?_⟩
      show spM X.K X.mg n mf [.ref a] H2 Q (WE W σ)
      exact call_ok e2 r2 (.cons (insAt_bad ei q2) .nil) p2
    · exact p2.elim
  · exact p2.elim
theorem s_make (tk : Takes X W) (D : KOk X.prog X.w X.K X.mg X.base k C n ps mf) (hr : Room (k + 1) X.A) (hg : Gl X C) (ha : SA X W (e :: es) ms) (hdb : (C == ("__debug__" : Str)) = false := by decide)
    (he : starEach (e :: es) X.env = (false, eval e X.env) :: starEach es X.env := by rfl) (hpl : (backTo pos (starEach es X.env)).any (·.1) = false := by rfl) : SE X W (.Call (.Name C p) (e :: es) [] pos) (mMake C n mf ms) := by
  obtain ⟨f, fd, hm, Mk, F, hb⟩ := D.ex
  refine (pe_makeE (E := WE W) Mk F hr hg hm hb (fun σ => passAt tk σ) ha hdb he hpl).im fun σ H Q ⟨g, st, r, p⟩ => ⟨g, st, r, Pst.bind (RelA := TRs X.K) Ext.refl p fun g2 ws H2 ts st2 e2 _ r2 q2 p2 => ?_⟩
  intro x dx hx hdx hne
  obtain ⟨g3, st3, vs, e3, r3, v3, p3, _⟩ := Pst.takes e2 r2 q2 p2
  split at p3
  · rename_i hl
    have d : Add H2 (upd (upd H2 dx (.own x)) x (.ins (He.ga X.K C) dx [])) := (Add.upd hdx).trans (Add.upd (by rw [upd_ne (fun z => hne z.symm)]; exact hx))
    have r4 := r3.add d
    have rx := r4.place (a := x) (o := .ins C []) (fun z => r3.sa x z hx) (r3.wf.no_rho hx) (r3.wf.no_O hx) ⟨dx, [], upd_same, .nil⟩
    have hno : ∀ b, g3.rho st3.hp.length ≠ some b := fun b z => absurd (r3.dom _ _ z) (Nat.lt_irrefl _)
    have ex : Ext g H (gNew g3 st3.hp.length x) (upd (upd H2 dx (.own x)) x (.ins (He.ga X.K C) dx [])) := (e3.trans d.ext).place hno (.inl (e3.nn x hx))
    have vx : VR X.K (gNew g3 st3.hp.length x) (upd (upd H2 dx (.own x)) x (.ins (He.ga X.K C) dx [])) (.ref st3.hp.length) (.ref x) := by
      unfold VR
      exact ⟨x, by show (if _ = _ then _ else _) = _; rw [if_pos rfl], rfl⟩
    have v4 : VRs X.K (gNew g3 st3.hp.length x) (upd (upd H2 dx (.own x)) x (.ins (He.ga X.K C) dx [])) vs ws := VRs.up (g1 := g3) (g2 := gNew g3 st3.hp.length x) (fun n a z => by
      show (if n = st3.hp.length then some x else g3.rho n) = some a
      rw [if_neg (fun q => by rw [q] at z; exact hno a z)]; exact z) (fun a z => z) _ _ (VRs.ext r3.wf d.ext _ _ v3)
    refine ⟨(gNew g3 st3.hp.length x).cut, _, _, show (Val.ref st3.hp.length :: vs).length = n by rw [List.length_cons]; exact hl, fun _ => rfl, rx.toRH.O _, (VRs.cons vx v4).O _, ?_⟩
    show FPst X.K X.mg _ _ (mf (.ref st3.hp.length :: vs) (st3.hp ++ [.ins C []])) _ _
    cases hmf : mf (.ref st3.hp.length :: vs) (st3.hp ++ [.ins C []]) with
    | bad => rw [hmf] at p3; exact p3.elim
    | exc y s =>
      rw [hmf] at p3
      intro g' cls d' H' e' o' r' x'
      obtain ⟨ex2, rr⟩ := rx.called e' r'
      exact p3 _ cls d' H' (ex.trans ex2) rr x'.O
    | ok t s =>
      rw [hmf] at p3
      intro g' w H' e' o' r' t'
      obtain ⟨ex2, rr⟩ := rx.called e' r'
      cases t with
      | own _ => exact p3.elim
      | loc _ => exact p3.elim
      | val v =>
        cases v with
        | non =>
          have t' : VR X.K g' H' .non w := t'
          unfold VR at t'
          refine ⟨t', p3 _ _ H' (ex.trans ex2) rr ?_⟩
          show VR X.K _ H' (.ref st3.hp.length) (.ref x)
          exact VR.ext rx.wf ex2 _ _ vx
        | _ => exact p3.elim
  · exact p3.elim
end
end Sm

namespace Sm
open PySem L2
/-! ### lists of the heap, walked as they stand -/
structure LSrc where
  n : Nat
  get : List Ob → Nat → Option Val
  stop : List Ob → Nat → Bool
structure SrcOkL (K : PySem.W.Frag) (g : G) (H : Hp) (J : It) (s : LSrc) : Prop where
  go : ∀ g' H' hp', Ext g H g' H' → RH K g' hp' H' → ∀ i v, s.get hp' i = some v → J.go i H'
  stop : ∀ g' H' hp', Ext g H g' H' → RH K g' hp' H' → ∀ i, s.stop hp' i = true → J.stop i H'
  yld : ∀ g' H' hp', Ext g H g' H' → RH K g' hp' H' → ∀ i v x H'', s.get hp' i = some v → J.yld i H' x H'' → Add H' H'' ∧ VR K g' H'' v x
def sIL (K : PySem.W.Frag) (mg : Str → Option Value) (W : WX) (m : M LSrc) : TI := fun σ H Rr => ∃ g st, R K g st σ H ∧ match m st with
  | .ok xs st' => ∀ g' H' J, Ext g H g' H' → R K g' st' σ H' → SrcOkL K g' H' J xs → Rr J H'
  | .exc e st' => ∀ g' cls d H', Ext g H g' H' → R K g' st' σ H' → XR K mg g' H' e cls d → W cls d σ H'
  | .bad => False
structure SIL (X : Cx) (W : WX) (tg iter : Expr) (m : M LSrc) : Prop where
  ex : PI X tg iter (sIL X.K X.mg W m)
/-- a list's place -/
def plc (t : T) (st : MS) : Option (Nat × List Val) := match t with
  | .val (.ref n) => match st.hp[n]? with
    | some (.lst vs) => some (n, vs)
    | _ => none
  | _ => none
def liveL (n : Nat) (hp : List Ob) (i : Nat) : Option Val := match hp[n]? with
  | some (.lst vs) => vs[i]?
  | _ => none
def isLst (hp : List Ob) (n : Nat) : Bool := match hp[n]? with
  | some (.lst _) => true
  | _ => false
def liveS (n : Nat) (hp : List Ob) (i : Nat) : Bool := match hp[n]? with
  | some (.lst vs) => decide (vs.length ≤ i)
  | _ => false
section
variable {K : PySem.W.Frag} {mg : Str → Option Value} {g g0 g1 g2 : G} {H H0 H1 H2 : Hp} {st st1 st2 : MS} {σ : L2.St} {W : WX}
theorem plc_ok {t : T} {w : V} {n : Nat} {vs : List Val} (r : R K g1 st1 σ H1) (q : TR K g0 H0 g1 H1 σ t w) (e : plc t st1 = some (n, vs)) :
    ∃ a ws, w = .ref a ∧ g1.rho n = some a ∧ H1 a = some (.lst ws) ∧ VRs K g1 H1 vs ws := by
  unfold plc at e
  split at e
  · rename_i m
    split at e
    · rename_i vs' hn
      cases e
      obtain ⟨a, h1, ws, h2, h3⟩ := r.ob _ _ hn
      have q : VR K g1 H1 (.ref n) w := q
      unfold VR at q
      obtain ⟨a', k1, rfl⟩ := q
      rw [h1] at k1; cases k1
      exact ⟨a, ws, rfl, h1, h2, h3⟩
    · cases e
  · cases e
theorem live_at {a : Addr} {n i : Nat} {v : Val} {hp : List Ob} (h : g.rho n = some a) (r : RH K g hp H) (e : liveL n hp i = some v) : ∃ ws w, H a = some (.lst ws) ∧ ws[i]? = some w ∧ VR K g H v w := by
  unfold liveL at e
  split at e
  · rename_i vs hn
    obtain ⟨b, h1, ws, h2, h3⟩ := r.ob _ _ hn
    rw [h] at h1; cases h1
    obtain ⟨w, k1, k2⟩ := h3.get e
    exact ⟨ws, w, h2, k1, k2⟩
  · cases e
theorem live_end {a : Addr} {n i : Nat} {hp : List Ob} (h : g.rho n = some a) (r : RH K g hp H) (e : liveS n hp i = true) : ∃ ws, H a = some (.lst ws) ∧ ws.length ≤ i := by
  unfold liveS at e
  split at e
  · rename_i vs hn
    obtain ⟨b, h1, ws, h2, h3⟩ := r.ob _ _ hn
    rw [h] at h1; cases h1
    exact ⟨ws, h2, by rw [← h3.length]; exact of_decide_eq_true e⟩
  · cases e
theorem sq_uniq {a : Addr} {xs ys : List V} (h : H a = some (.lst xs)) (q : ∀ zs, SqL K H a zs → zs[0]? = ys[0]?) : xs[0]? = ys[0]? := q xs (SqL.of h)
theorem SrcOkL.lst {a : Addr} {n : Nat} {vs : List Val} (h : g.rho n = some a) : SrcOkL K g H (Itl K a) ⟨vs.length, liveL n, liveS n⟩ where
  go := fun g' H' hp' e r i v q => by
    obtain ⟨ws, w, h1, h2, _⟩ := live_at (e.rho _ _ h) r q
    exact ⟨ws, w, SqL.of h1, h2⟩
  stop := fun g' H' hp' e r i q => by
    obtain ⟨ws, h1, h2⟩ := live_end (e.rho _ _ h) r q
    exact ⟨ws, SqL.of h1, h2⟩
  yld := fun g' H' hp' e r i v x H'' q y => by
    obtain ⟨ws, w, h1, h2, h3⟩ := live_at (e.rho _ _ h) r q
    obtain ⟨rfl, y⟩ := y
    have y := y ws (SqL.of h1)
    rw [h2] at y; cases y
    exact ⟨Add.refl, h3⟩
theorem SrcOkL.enum {a : Addr} {n : Nat} {vs : List Val} (h : g.rho n = some a) : SrcOkL K g H (Ite K a) ⟨vs.length, fun hp i => (liveL n hp i).map fun v => .tup [.int (i : Nat), v], liveS n⟩ where
  go := fun g' H' hp' e r i v q => by
    obtain ⟨v', q, _⟩ := Option.map_eq_some_iff.mp q
    obtain ⟨ws, w, h1, h2, _⟩ := live_at (e.rho _ _ h) r q
    exact ⟨ws, w, SqL.of h1, h2⟩
  stop := fun g' H' hp' e r i q => by
    obtain ⟨ws, h1, h2⟩ := live_end (e.rho _ _ h) r q
    exact ⟨ws, SqL.of h1, h2⟩
  yld := fun g' H' hp' e r i v x H'' q y => by
    obtain ⟨v', q', rfl⟩ := Option.map_eq_some_iff.mp q
    obtain ⟨ws, w, h1, h2, h3⟩ := live_at (e.rho _ _ h) r q'
    obtain ⟨p, x', rfl, hp, rfl, y⟩ := y
    have y := y ws (SqL.of h1)
    rw [h2] at y; cases y
    exact ⟨Add.upd hp, vr_pair hp vr_int h3⟩
theorem SrcOkL.zip {a b : Addr} {n m : Nat} {vs us : List Val} (h : g.rho n = some a) (h' : g.rho m = some b) : SrcOkL K g H (Itz K a b) ⟨min vs.length us.length, fun hp i => match liveL n hp i, liveL m hp i with
    | some x, some y => some (.tup [x, y])
    | _, _ => none, fun hp i => (liveS n hp i && isLst hp m) || (liveS m hp i && isLst hp n)⟩ where
  go := fun g' H' hp' e r i v q => by
    dsimp only at q
    split at q
    · rename_i x y q1 q2
      obtain ⟨ws, w, h1, h2, _⟩ := live_at (e.rho _ _ h) r q1
      obtain ⟨us, u, k1, k2, _⟩ := live_at (e.rho _ _ h') r q2
      exact ⟨ws, us, w, u, SqL.of h1, SqL.of k1, h2, k2⟩
    · cases q
  stop := fun g' H' hp' e r i q => by
    have two : ∀ (c : Addr) (k : Nat), g'.rho k = some c → isLst hp' k = true → ∃ ws, H' c = some (.lst ws) := fun c k e1 e2 => by
      unfold isLst at e2
      split at e2
      case h_2 => cases e2
      rename_i _ hk
      obtain ⟨c', h1, ws, h2, _⟩ := r.ob _ _ hk
      rw [e1] at h1; cases h1
      exact ⟨ws, h2⟩
    rcases Bool.or_eq_true _ _ ▸ q with q | q
    · obtain ⟨q1, q2⟩ := Bool.and_eq_true_iff.mp q
      obtain ⟨ws, h1, h2⟩ := live_end (e.rho _ _ h) r q1
      obtain ⟨us, k1⟩ := two _ _ (e.rho _ _ h') q2
      exact ⟨ws, us, SqL.of h1, SqL.of k1, .inl h2⟩
    · obtain ⟨q1, q2⟩ := Bool.and_eq_true_iff.mp q
      obtain ⟨ws, h1, h2⟩ := live_end (e.rho _ _ h') r q1
      obtain ⟨us, k1⟩ := two _ _ (e.rho _ _ h) q2
      exact ⟨us, ws, SqL.of k1, SqL.of h1, .inr h2⟩
  yld := fun g' H' hp' e r i v x H'' q y => by
    dsimp only at q
    split at q
    · rename_i x1 y1 q1 q2
      cases q
      obtain ⟨ws, w, h1, h2, h3⟩ := live_at (e.rho _ _ h) r q1
      obtain ⟨us, u, k1, k2, k3⟩ := live_at (e.rho _ _ h') r q2
      obtain ⟨p, x', y', rfl, hp, rfl, j1, j2⟩ := y
      have j1 := j1 ws (SqL.of h1)
      have j2 := j2 us (SqL.of k1)
      rw [h2] at j1; cases j1
      rw [k2] at j2; cases j2
      exact ⟨Add.upd hp, vr_pair hp h3 k3⟩
    · cases q
end
/-! loops -/
def loopL (s : LSrc) (gt : T → M Unit) (body : M Fl) : Nat → Nat → M Fl
  | 0, i => fun st => if s.stop st.hp i = true then .ok .nx st else .bad
  | k + 1, i => fun st => match s.get st.hp i with
    | some v => (gt (.val v) st).bind fun _ st1 => (body st1).bind fun f st2 => match f with
      | .nx => loopL s gt body k (i + 1) st2
      | .cnt => loopL s gt body k (i + 1) st2
      | .brk => .ok .nx st2
      | .ret t => .ok (.ret t) st2
    | none => .bad
def mForL (mi : M LSrc) (gt : T → M Unit) (body : M Fl) : M Fl := fun st => (mi st).bind fun s st1 => loopL s gt body s.n 0 st1
theorem SPst.loopL {K : PySem.W.Frag} {mg : Str → Option Value} {W : WX} {g g1 : G} {H H1 : Hp} {D : Ends} {s : LSrc} {gt : T → M Unit} {body : M Fl} {k i : Nat} {r : Out Fl} {N : L2.St → Hp → Prop} (e : Ext g H g1 H1) (h : SPst K mg W g H (r.bind fun f st2 => match f with
    | .nx => Sm.loopL s gt body k i st2
    | .cnt => Sm.loopL s gt body k i st2
    | .brk => .ok .nx st2
    | .ret t => .ok (.ret t) st2) D) (hN : ∀ g' σ' H' st', Ext g H g' H' → Ext g1 H1 g' H' → R K g' st' σ' H' → SPst K mg W g H (Sm.loopL s gt body k i st') D → N σ' H') : SPst K mg W g1 H1 r { D with nx := N, ct := N, bk := D.nx } := by
  cases r with
  | bad => exact h
  | exc x st' => exact SPst.sh (r := .exc x st') e h
  | ok f st' =>
    cases f with
    | nx => exact fun g' σ' H' e' r' => hN g' σ' H' st' (e.trans e') e' r' h
    | cnt => exact fun g' σ' H' e' r' => hN g' σ' H' st' (e.trans e') e' r' h
    | brk => exact fun g' σ' H' e' r' => h g' σ' H' (e.trans e') r'
    | ret t => exact SPst.sh (r := .ok (.ret t) st') e h
section
variable {X : Cx} {W : WX} {tg e c : Expr} {m : M T} {pos : Pos}
theorem k_forL {iter : Expr} {body : List Stmt} {mi : M LSrc} {gt : T → M Unit} {mb : M Fl} {pos : Pos} (hp : PassesOwn (model X.prog X.w) X.A X.env X.xe) (hc : X.calm = true) (hi : SIL X W tg iter mi) (hg : SG X W fAll tg gt) (hb : SSs X W body mb)
    (hs : ∀ x, foldedSetIterable iter X.env x = pure x := by intro _; rfl) : SS X W (.For tg iter body [] pos) (mForL mi gt mb) := (ps_for hp hc hi.ex hg hb hs).im fun D σ H ⟨g, st, r, p⟩ => by
  refine ⟨g, st, r, ?_⟩
  have p : SPst X.K X.mg W g H ((mi st).bind fun s st1 => loopL s gt mb s.n 0 st1) D := p
  cases hm : mi st with
  | bad => rw [hm] at p; exact p.elim
  | exc x s => rw [hm] at p; exact fun g' cls d H' e' r' x' => p g' cls d σ H' e' r' x'
  | ok ls s =>
    rw [hm] at p
    intro g1 H1 J e1 r1 src
    have p : SPst X.K X.mg W g H (loopL ls gt mb ls.n 0 s) D := p
    refine ⟨fun i m σ' H' => ∃ g' s', Ext g H g' H' ∧ Ext g1 H1 g' H' ∧ R X.K g' s' σ' H' ∧ SPst X.K X.mg W g H (loopL ls gt mb m i s') D, ⟨ls.n, g1, s, e1, .refl, r1, p⟩, ?_⟩
    rintro i m σ' H' ⟨g', s', e', e1', r', p'⟩
    cases m with
    | zero =>
      have p' : SPst X.K X.mg W g H (if ls.stop s'.hp i = true then .ok .nx s' else .bad) D := p'
      split at p'
      · rename_i hst
        exact .inl ⟨src.stop g' H' _ e1' r'.toRH i hst, p' g' σ' H' e' r'⟩
      · exact p'.elim
    | succ m =>
      have p' : SPst X.K X.mg W g H (match ls.get s'.hp i with
        | some v => (gt (.val v) s').bind fun _ st1 => (mb st1).bind fun f st2 => match f with
          | .nx => loopL ls gt mb m (i + 1) st2
          | .cnt => loopL ls gt mb m (i + 1) st2
          | .brk => .ok .nx st2
          | .ret t => .ok (.ret t) st2
        | none => .bad) D := p'
      cases hv : ls.get s'.hp i with
      | none => rw [hv] at p'; exact p'.elim
      | some v =>
        rw [hv] at p'
        refine .inr ⟨src.go g' H' _ e1' r'.toRH i v hv, fun σ2 H2 => ∃ g' s', Ext g H g' H2 ∧ Ext g1 H1 g' H2 ∧ R X.K g' s' σ2 H2 ∧ SPst X.K X.mg W g H (loopL ls gt mb m (i + 1) s') D, fun σ2 H2 z => ⟨m, Nat.lt_succ_self _, z⟩, fun x H'' hy => ?_⟩
        obtain ⟨ad, qv⟩ := src.yld g' H' _ e1' r'.toRH i v x H'' hv hy
        have e2 : Ext g' H' g' H'' := ad.ext
        have r2 := r'.add ad
        refine ⟨g', H'', g', s', .val v, .refl, r2, qv, ?_⟩
        have eb : Ext g H g' H'' := e'.trans e2
        dsimp only at p'
        cases hg : gt (.val v) s' with
        | bad => rw [hg] at p'; exact p'.elim
        | exc y s2 => rw [hg] at p'; exact fun g3 cls d σ3 H3 e3 r3 x3 => p' g3 cls d σ3 H3 (eb.trans e3) r3 x3
        | ok u s2 =>
          rw [hg] at p'
          intro g3 σ3 H3 e3 r3 _
          refine ⟨g3, s2, r3, ?_⟩
          exact SPst.loopL (eb.trans e3) p' fun g4 σ4 H4 s4 e4 e4' r4 p4 => ⟨g4, s4, e4, e1'.trans (e2.trans (e3.trans e4')), r4, p4⟩
end
/-! sources -/
theorem PstL.bind {α γ : Type} {RelA : RelT α γ} {K : PySem.W.Frag} {mg : Str → Option Value} {g g1 : G} {H H1 : Hp} {σ : L2.St} {W : WX} {Rr : It → Hp → Prop} {r : Out α} {k : α → M LSrc} {Q1 : γ → Hp → Prop} (e : Ext g H g1 H1)
    (h : match r.bind k with
      | .ok xs st' => ∀ g' H' J, Ext g H g' H' → R K g' st' σ H' → SrcOkL K g' H' J xs → Rr J H'
      | .exc e st' => ∀ g' cls d H', Ext g H g' H' → R K g' st' σ H' → XR K mg g' H' e cls d → W cls d σ H'
      | .bad => False)
    (hq : ∀ g2 w H2 t st2, Ext g H g2 H2 → Ext g1 H1 g2 H2 → R K g2 st2 σ H2 → RelA g1 H1 g2 H2 σ t w → (match k t st2 with
      | .ok xs st' => ∀ g' H' J, Ext g H g' H' → R K g' st' σ H' → SrcOkL K g' H' J xs → Rr J H'
      | .exc e st' => ∀ g' cls d H', Ext g H g' H' → R K g' st' σ H' → XR K mg g' H' e cls d → W cls d σ H'
      | .bad => False) → Q1 w H2) : Pst K mg W RelA g1 H1 σ r Q1 := by
  cases r with
  | ok t st' => exact fun g' w H' e' r' t' => hq g' w H' t st' (e.trans e') e' r' t' h
  | exc x st' => exact fun g' c d H' e' r' t' => h g' c d H' (e.trans e') r' t'
  | bad => exact h
def mItemsL (m : M T) : M LSrc := fun st => (m st).bind fun t st1 => match plc t st1 with
  | some (n, vs) => .ok ⟨vs.length, liveL n, liveS n⟩ st1
  | none => .bad
def mEnumL (m : M T) : M LSrc := fun st => (m st).bind fun t st1 => match plc t st1 with
  | some (n, vs) => .ok ⟨vs.length, fun hp i => (liveL n hp i).map fun v => .tup [.int (i : Nat), v], liveS n⟩ st1
  | none => .bad
def mZipL (ma mb : M T) : M LSrc := fun st => (ma st).bind fun t st1 => (mb st1).bind fun t' st2 => match plc t st2, plc t' st2 with
  | some (n, vs), some (m, us) => .ok ⟨min vs.length us.length, fun hp i => match liveL n hp i, liveL m hp i with
    | some x, some y => some (.tup [x, y])
    | _, _ => none, fun hp i => (liveS n hp i && isLst hp m) || (liveS m hp i && isLst hp n)⟩ st2
  | _, _ => .bad
section
variable {X : Cx} {W : WX} {tg e e' : Expr} {m m' : M T} {pos p tpos : Pos} {elts : List Expr} {kk : Nat}
theorem i_seqL (he : SE X W e m) : SIL X W tg e (mItemsL m) := ⟨he.isIt.im fun σ H Rr ⟨g, st, r, p⟩ => ⟨g, st, r, PstL.bind (RelA := TR X.K) Ext.refl p fun g2 w H2 t st2 e2 _ r2 q2 p2 => by
  split at p2
  · rename_i st' xs' hs'
    revert hs'
    split
    · rename_i n vs hn
      intro hs'
      cases hs'
      obtain ⟨a, ws, rfl, h1, h2, h3⟩ := plc_ok r2 q2 hn
      exact ⟨a, rfl, .inr ⟨⟨ws, SqL.of h2⟩, p2 g2 H2 _ e2 r2 (.lst h1)⟩⟩
    · intro hs'; cases hs'
  · rename_i hs'
    revert hs'
    split
    · intro hs'; cases hs'
    · intro hs'; cases hs'
  · exact p2.elim⟩⟩
theorem i_enumL (hg : Gl X "enumerate") (hm : X.mg "enumerate" = none) (ha : SE X W e m) (hs : starEach [e] X.env = [(false, eval e X.env)] := by rfl) (hst : starEach (e :: []) X.env = (false, eval e X.env) :: starEach [] X.env := by rfl) :
    SIL X W (.Tuple elts kk tpos) (.Call (.Name "enumerate" p) [e] [] pos) (mEnumL m) :=
  ⟨(pi_enumT hg hm (pa_cons ha pa_nil hst) hs).im fun σ H Rr ⟨g, st, r, p⟩ => ⟨g, st, r, PstL.bind (RelA := TR X.K) Ext.refl p fun g2 w H2 t st2 e2 _ r2 q2 p2 => by
    cases hn : plc t st2 with
    | none => simp only [hn] at p2
    | some q =>
      obtain ⟨n, vs⟩ := q
      simp only [hn] at p2
      obtain ⟨a, ws, rfl, h1, h2, h3⟩ := plc_ok r2 q2 hn
      exact ⟨a, ws, rfl, .inl ⟨SqL.of h2, p2 g2 H2 _ e2 r2 (.enum h1)⟩⟩⟩⟩
theorem i_zipL (hg : Gl X "zip") (hm : X.mg "zip" = none) (ha : SE X W e m) (hb : SE X W e' m') (hs : starEach [e, e'] X.env = [(false, eval e X.env), (false, eval e' X.env)] := by rfl)
    (hst : starEach (e :: [e']) X.env = (false, eval e X.env) :: starEach [e'] X.env := by rfl) (hst2 : starEach (e' :: []) X.env = (false, eval e' X.env) :: starEach [] X.env := by rfl) (hpl : (backTo pos (starEach [e'] X.env)).any (·.1) = false := by rfl) :
    SIL X W (.Tuple elts kk tpos) (.Call (.Name "zip" p) [e, e'] [] pos) (mZipL m m') :=
  ⟨(RZ.pi_zipA hg hm (pa_cons ha (pa_cons hb pa_nil hst2) hst) hst hpl).im fun σ H Rr ⟨g, st, r, p⟩ => ⟨g, st, r, PstL.bind (RelA := TR X.K) Ext.refl p fun g2 w H2 t st2 e2 _ r2 q2 p2 => ⟨g2, st2, r2, PstL.bind (RelA := TR X.K) e2 p2 fun g3 w3 H3 t3 st3 e3 e3' r3 q3 p3 => by
    have q2' := TR.rel.ext r2.wf e3' q2
    cases hn : plc t st3 with
    | none => simp only [hn] at p3
    | some q =>
      obtain ⟨n, vs⟩ := q
      cases hk : plc t3 st3 with
      | none => simp only [hn, hk] at p3
      | some q' =>
        obtain ⟨k, us⟩ := q'
        simp only [hn, hk] at p3
        obtain ⟨a, ws, rfl, h1, h2, h3⟩ := plc_ok r3 q2' hn
        obtain ⟨b, xs, rfl, k1, k2, k3⟩ := plc_ok r3 q3 hk
        exact ⟨a, b, ws, xs, rfl, .inl ⟨SqL.of h2, SqL.of k2, p3 g3 H3 _ e3 r3 (.zip h1 k1)⟩⟩⟩⟩⟩
end
end Sm

namespace Sm
open PySem L2
/-! ### comprehensions over lists of the heap -/
def cloopL (s : LSrc) (vs : List Nat) (gt : T → M Unit) (ct : M Bool) (el : M T) : Nat → Nat → M (List Val)
  | 0, i => fun st => if s.stop st.hp i = true then .ok [] st else .bad
  | k + 1, i => fun st => match s.get st.hp i with
    | some x => (gt (.val x) { st with sl := wipeS st.sl vs }).bind fun _ st1 => (ct st1).bind fun b st2 => if b = true then (el st2).bind fun t st3 => (mTake t st3).bind fun v st4 => (cloopL s vs gt ct el k (i + 1) st4).bind fun ys st5 => .ok (v :: ys) st5
      else cloopL s vs gt ct el k (i + 1) st2
    | none => .bad
def mCompL (vs : List Nat) (mi : M LSrc) (gt : T → M Unit) (ct : M Bool) (el : M T) : M T := fun st => (mi st).bind fun s st1 => if s.n ≤ 16777216 then (noexc (cloopL s vs gt ct el s.n 0 st1)).bind fun ys st2 => .ok (.own ys) { st2 with sl := unwipe st1.sl st2.sl vs } else .bad
section
variable {K : PySem.W.Frag} {mg : Str → Option Value} {W : WX} {vs : List Nat} {mi : M LSrc} {gt : T → M Unit} {ct : M Bool} {el : M T} {σ : L2.St} {H : Hp} {Q : VK}
def PcLL (K : PySem.W.Frag) (mg : Str → Option Value) (W : WX) (ls : LSrc) (vs : List Nat) (gt : T → M Unit) (ct : M Bool) (el : M T) (s1 : MS) (g : G) (H : Hp) (σ : L2.St) (Q : VK) (acc : List Val) (k i : Nat) (s : MS) : Prop := match cloopL ls vs gt ct el k i s with
  | .ok ys st2 => Pst K mg W (TR K) g H σ (.ok (.own (acc ++ ys)) { st2 with sl := unwipe s1.sl st2.sl vs }) Q
  | _ => False
theorem compL_ok (h : sE K mg W (mCompL vs mi gt ct el) σ H Q) : tLc (sIL K mg W mi) (sG K mg W0 (inF vs) gt) (sT K mg W0 ct) (sE K mg W0 el) vs σ H Q := by
  obtain ⟨g, st, r, p⟩ := h
  refine ⟨g, st, r, ?_⟩
  have p : Pst K mg W (TR K) g H σ ((mi st).bind fun s st1 => if s.n ≤ 16777216 then (noexc (cloopL s vs gt ct el s.n 0 st1)).bind fun ys st2 => .ok (.own ys) { st2 with sl := unwipe st1.sl st2.sl vs } else .bad) Q := p
  cases hm : mi st with
  | bad => rw [hm] at p; exact p.elim
  | exc x s => rw [hm] at p; exact p
  | ok ls s1 =>
    rw [hm] at p
    intro g1 H1 J e1 r1 src D hD
    have p : Pst K mg W (TR K) g H σ (if ls.n ≤ 16777216 then (noexc (cloopL ls vs gt ct el ls.n 0 s1)).bind fun ys st2 => .ok (.own ys) { st2 with sl := unwipe s1.sl st2.sl vs } else .bad) Q := p
    split at p
    case isFalse => exact p.elim
    rename_i hsz
    have p0 : PcLL K mg W ls vs gt ct el s1 g H σ Q [] ls.n 0 s1 := by
      unfold PcLL
      cases hc : cloopL ls vs gt ct el ls.n 0 s1 with
      | bad => rw [hc] at p; exact p
      | exc x s => rw [hc] at p; exact p
      | ok ys s2 => rw [hc] at p; exact p
    have hD0 : H D = none := e1.nn D hD
    have aD : Add H1 (upd H1 D (.lst [])) := Add.upd hD
    have tr0 : TR K g H g1 (upd H1 D (.lst [])) σ (.own []) (.ref D) := ⟨D, [], rfl, upd_same, VRs.nil, fun z => r1.sa D z hD, r1.wf.no_rho hD, r1.wf.no_O hD, .inl hD0⟩
    refine ⟨fun i m H' => i + m = ls.n ∧ ∃ g' s' σ' acc, Ext g H g' H' ∧ Ext g1 H1 g' H' ∧ R K g' s' σ' H' ∧ wipe σ' vs = wipe σ vs ∧ TR K g H g' H' σ (.own acc) (.ref D) ∧ acc.length ≤ i ∧ PcLL K mg W ls vs gt ct el s1 g H σ Q acc m i s',
      ⟨ls.n, Nat.zero_add _, g1, s1, σ, [], e1.trans aD.ext, aD.ext, r1.add aD, rfl, tr0, Nat.le_refl _, p0⟩, ?_⟩
    rintro i m H' ⟨him, g', s', σ', acc, e', e1', r', hw, tr, hacc, p'⟩
    cases m with
    | zero =>
      simp only [PcLL, cloopL] at p'
      split at p'
      · rename_i ys s2 hs
        split at hs
        · rename_i hst
          cases hs
          refine .inl ⟨src.stop g' H' _ e1' r'.toRH i hst, ?_⟩
          rw [List.append_nil] at p'
          exact p' _ _ H' e'.wiped (r1.unwiped e1' r' hw) tr.wiped
        · cases hs
      · exact p'.elim
    | succ m =>
      cases hv : ls.get s'.hp i with
      | none =>
        unfold PcLL cloopL at p'
        simp only [hv] at p'
      | some v =>
        refine .inr ⟨src.go g' H' _ e1' r'.toRH i v hv, fun H' => ∃ g' s' σ' acc, Ext g H g' H' ∧ Ext g1 H1 g' H' ∧ R K g' s' σ' H' ∧ wipe σ' vs = wipe σ vs ∧ TR K g H g' H' σ (.own acc) (.ref D) ∧ acc.length ≤ i + 1 ∧ PcLL K mg W ls vs gt ct el s1 g H σ Q acc m (i + 1) s',
          fun H2 z => ⟨m, Nat.lt_succ_self _, by omega, z⟩, fun x H'' hy => ?_⟩
        obtain ⟨ad, qv⟩ := src.yld g' H' _ e1' r'.toRH i v x H'' hv hy
        have r2 := r'.add ad
        have rw2 := r2.wiped (vs := vs)
        have tr2 : TR K g H { g' with O := oWipe g'.O vs } H'' σ (.own acc) (.ref D) := (TR.rel.ext r'.wf ad.ext tr).wiped
        rw [hw] at rw2
        have eb : Ext g H { g' with O := oWipe g'.O vs } H'' := (e'.trans ad.ext).wiped
        have eb1 : Ext g1 H1 { g' with O := oWipe g'.O vs } H'' := (e1'.trans ad.ext).wiped
        refine ⟨_, H'', _, { s' with sl := wipeS s'.sl vs }, .val v, .refl, rw2, VR.O _ qv, ?_⟩
        simp only [PcLL, cloopL, hv] at p'
        cases hg : gt (.val v) { s' with sl := wipeS s'.sl vs } with
        | bad => rw [hg] at p'; exact p'.elim
        | exc y s2 => rw [hg] at p'; exact p'.elim
        | ok u s2 =>
          rw [hg] at p'
          intro g3 σ3 H3 e3 r3 a3
          have hw3 := wipe_agr a3
          refine ⟨hw3, g3, s2, r3, ?_⟩
          simp only [Out.bind] at p'
          cases hc : ct s2 with
          | bad => rw [hc] at p'; exact p'.elim
          | exc y s3 => rw [hc] at p'; exact p'.elim
          | ok b s3 =>
            rw [hc] at p'
            intro g4 b' H4 e4 r4 hb
            have hb : b' = b := hb
            subst hb
            have tr4 := TR.rel.ext r3.wf e4 (TR.rel.ext rw2.wf e3 tr2)
            have e34 := e3.trans e4
            cases b' with
            | false =>
              refine iteF ⟨g4, s3, σ3, acc, eb.trans e34, eb1.trans e34, r4, hw3, tr4, Nat.le_succ_of_le hacc, ?_⟩
              simp only [if_neg Bool.false_ne_true] at p'
              exact p'
            | true =>
              refine iteT ⟨g4, s3, r4, ?_⟩
              simp only [if_true] at p'
              cases he : el s3 with
              | bad => rw [he] at p'; exact p'.elim
              | exc y s4 => rw [he] at p'; exact p'.elim
              | ok t s4 =>
                rw [he] at p'
                intro g5 y H5 e5 r5 q5
                have tr5 := TR.rel.ext r4.wf e5 tr4
                simp only [] at p'
                cases ht : mTake t s4 with
                | bad => rw [ht] at p'; exact p'.elim
                | exc y s5 => exact (take_noexc ht).elim
                | ok v' s5 =>
                  rw [ht] at p'
                  simp only [] at p'
                  obtain ⟨g6, e6, r6, v6, l6, _⟩ := take_ok e5 r5 q5.tw ht
                  have tr6 := TR.rel.ext r4.wf e6 tr4
                  obtain ⟨D', accW, h1, h2, h3, h4, h5, h6, h7⟩ := tr6
                  cases h1
                  have hlen : accW.length = acc.length := h3.length.symm
                  refine ⟨accW, h2, by rw [hlen, sizeLine_eq]; omega, g6, s5, σ3, acc ++ [v'], ?_, ?_, ?_, hw3, ?_, ?_, ?_⟩
                  · exact (eb.trans (e34.trans e6)).other hD0
                  · exact (eb1.trans (e34.trans e6)).other hD
                  · exact r6.other h4 h5 h6 ⟨_, h2⟩
                  · have hm : ∃ l, H5 D = some (.lst l) := ⟨_, h2⟩
                    exact ⟨D, _, rfl, upd_same, VRs.app (VRs.other h4 hm _ _ h3) (VRs.other h4 hm _ _ (VRs.cons v6 VRs.nil)), h4, h5, h6, h7⟩
                  · rw [List.length_append]; exact Nat.succ_le_succ hacc
                  · unfold PcLL
                    cases hk : cloopL ls vs gt ct el m (i + 1) s5 with
                    | bad => rw [hk] at p'; exact p'
                    | exc y s6 => rw [hk] at p'; exact p'
                    | ok ys s6 =>
                      rw [hk] at p'
                      simp only [List.append_assoc, List.singleton_append]
                      exact p'
end
section
variable {X : Cx} {W : WX} {tg iter elt : Expr} {ifs : List Expr} {scope : Scope} {own : List (Str × Nat)} {pos : Pos} {mi : M LSrc} {gt : T → M Unit} {ct : M Bool} {el : M T}
theorem s_compL (hc : X.calm = true) (hN : X.N.Nodup) (hi : SIL X W tg iter mi) (ok : BlkOk X.N X.env.scope scope own)
    (hg : ∀ (s : Shared) (H : Hp) (C : Addr) (cl : List (Str × Addr)) (fp : List Addr), SG (X.blk s H scope (compEnvC scope cl C X.env) fp) W0 (inF (own.map (·.2))) tg gt) (ht : ∀ (s : Shared) (H : Hp) (C : Addr) (cl : List (Str × Addr)) (fp : List Addr), sTs (X.blk s H scope (compEnvC scope cl C X.env) fp) W0 ifs ct)
    (he : ∀ (s : Shared) (H : Hp) (C : Addr) (cl : List (Str × Addr)) (fp : List Addr), SE (X.blk s H scope (compEnvC scope cl C X.env) fp) W0 elt el) (hs : ∀ x, foldedSetIterable iter X.env x = pure x := by intro _; rfl) :
    SE X W (.ListComp elt [⟨tg, iter, ifs, 0⟩] scope pos) (mCompL (own.map (·.2)) mi gt ct el) := (pe_lc hc hN hi.ex ok hg ht he hs).im fun σ H Q h => compL_ok h
theorem k_setCompL {i : Nat} {y : Str} {py : Pos} {spos : Pos} (hc : X.calm = true) (hN : X.N.Nodup) (hi : SIL X W tg iter mi) (ok : BlkOk X.N X.env.scope scope own)
    (hg : ∀ (s : Shared) (H : Hp) (C : Addr) (cl : List (Str × Addr)) (fp : List Addr), SG (X.blk s H scope (compEnvC scope cl C X.env) fp) W0 (inF (own.map (·.2))) tg gt) (ht : ∀ (s : Shared) (H : Hp) (C : Addr) (cl : List (Str × Addr)) (fp : List Addr), sTs (X.blk s H scope (compEnvC scope cl C X.env) fp) W0 ifs ct)
    (he : ∀ (s : Shared) (H : Hp) (C : Addr) (cl : List (Str × Addr)) (fp : List Addr), SE (X.blk s H scope (compEnvC scope cl C X.env) fp) W0 elt el)
    (hsw : swapsWith (.ListComp elt [⟨tg, iter, ifs, 0⟩] scope pos) (some (.Name y py)) spos.line X.env = pure true) (hy : X.N[i]? = some y := by rfl) (hyl : X.env.scope.names.lookup y = some .local := by rfl) (hs : ∀ x, foldedSetIterable iter X.env x = pure x := by intro _; rfl) :
    SS X W (.Assign [.Name y py] (.ListComp elt [⟨tg, iter, ifs, 0⟩] scope pos) spos) (mAsg (mCompL (own.map (·.2)) mi gt ct el) (mGN i)) :=
  (ps_setLc hc hN hy hyl hsw hi.ex ok hg ht he hs).im fun D σ H ⟨g, st, r, p⟩ => by
    have h : sE X.K X.mg W (mCompL (own.map (·.2)) mi gt ct el) σ H (fun w H1 => gName i w σ H1 D.nx) := ⟨g, st, r, SPst.bind Ext.refl p fun g2 w H2 t st2 e2 _ r2 q2 p2 => gn_ok (F := fAll) rfl e2 r2 q2 p2.gp⟩
    exact compL_ok h
end
/-! ### xs[i] op= e -/
def mAugSub (fop : Val → Val → Option T) (mo mi me : M T) : M Fl := fun st => (mo st).bind fun o st1 => (mi st1).bind fun i st2 => (asI (view i st2) st2).bind fun k st3 => match view o st3 with
  | some (.lst vs) => match L2.atI vs k with
    | some x => (me st3).bind fun t st4 => (vop2 fop (.val x) t st4).bind fun z st5 => (mTake z st5).bind fun v st6 => okU (putL o k v st6)
    | none => .bad
  | _ => .bad
section
variable {X : Cx} {W : WX} {e o i : Expr} {me mo mi : M T} {pos tpos : Pos}
theorem k_augsub {op : Operator} {rel : TIp} {fop : Val → Val → Option T} (ho : SE X W o mo) (hi : SE X W i mi) (he : SE X W e me) (hop : PIp X op rel) (hp : P2 X.K rel fop)
    (ha : ∀ ov iv new, augStore i ov iv new = (do holding [new, ov, iv] (setItem ov iv new); release [new, ov, iv] []; pure .next) := by intros; rfl) : SS X W (.AugAssign (.Subscript o i tpos) op e pos) (mAugSub fop mo mi me) :=
  (ps_augS ho hi get_list he hop set_list ha).im fun D σ H ⟨g, st, r, p⟩ => ⟨g, st, r, SPst.bind (RelA := TR X.K) Ext.refl p fun g2 wo H2 to st2 e2 _ r2 q2 p2 => ⟨g2, st2, r2, SPst.bind (RelA := TR X.K) e2 p2 fun g3 wi H3 ti st3 e3 e3' r3 q3 p3 => by
    rcases asI_ok r3 q3 with ⟨k, hk, rfl⟩ | hk
    case inr => rw [hk] at p3; exact p3.elim
    rw [hk] at p3
    have q2' := TR.rel.ext r2.wf e3' q2
    simp only [Out.bind] at p3
    split at p3
    case h_2 => exact p3.elim
    rename_i vs hv
    split at p3
    case h_2 => exact p3.elim
    rename_i x hx
    have z := view_ok r3 q2' hv
    obtain ⟨a, ws, rfl, h1, h2⟩ := z
    obtain ⟨wx, k1, k2⟩ := h2.atI hx
    refine ⟨a, ws, k, wx, rfl, rfl, SqL.of h1, k1, g3, st3, r3, SPst.bind (RelA := TR X.K) e3 p3 fun g4 y H4 ty st4 e4 e4' r4 q4 p4 => ?_⟩
    have kx : TR X.K g3 H3 g4 H4 σ (.val x) wx := VR.ext r3.wf e4' _ _ k2
    refine vop2_ok hp (Ext.refl (g := g4) (H := H4)) r4 kx q4 (SPst.bind (RelA := TR X.K) e4 p4 fun g5 z H5 tz st5 e5 e5' r5 q5 p5 => ?_)
    obtain ⟨g6, st6, v, e6, r6, v6, p6, l6⟩ := SPst.take2 e5 r5 (TR.rel.sh e4 q5) p5
    have qo : TR X.K g H g6 H5 σ to (.ref a) := by
      have q9 := TR.rel.ext r4.wf e5' (TR.rel.ext r3.wf e4' q2')
      cases to with
      | val u =>
        have q9 : VR X.K g5 H5 u (.ref a) := q9
        show VR X.K g6 H5 u (.ref a)
        exact VR.le l6 _ _ q9
      | loc s => exact q9
      | own us => exact p6.elim
    exact putL_ok (F := fAll) e6 r6 qo v6 p6.gp⟩⟩
end
end Sm

/-! ### small expressions that keep all objects: the keys of sorted -/
namespace Lk
open PySem PySem.Spec PySem.Calls PyProof.Rows L2
def Kp (h h' : Heap) : Prop := ∀ b o, h.get? b = some o → h'.get? b = some o
structure Pu (P : Program) (w : World) (A : Around) (env : Env) (h0 : Heap) (e : Expr) (R : Heap → Value → Prop) : Prop where
  run : ∀ (s : Shared) (E : Value → Shared → Prop) (Q : Value → Shared → Prop), Kp h0 s.heap → (∀ v h' tk, Kp s.heap h' → R h' v → Q v { s with heap := h', toks := tk }) → wpAny (model P w) A (eval e env) Q E s
def RI (i : Int) : Heap → Value → Prop := fun _ v => ∃ t, v = .int i t
def RBo (b : Bool) : Heap → Value → Prop := fun _ v => v = .bool b
section
variable {P : Program} {w : World} {A : Around} {env : Env} {h0 : Heap} {e a b : Expr} {pos : Pos}
theorem pu_const {i : Int} {j} : Pu P w A env h0 (.Constant (.int i) j pos) (RI i) := ⟨fun s E Q k h => wpAny_Constant_int (h _ s.heap _ (fun _ _ z => z) ⟨_, rfl⟩)⟩
theorem pu_loc {x : Str} {m : Str → Option Value} {v : Value} (hk : env.scope.kind = .function) (hl : env.kindOf x = some .local) (hn : h0.Ns env.locals m) (hv : m x = some v) (hd : (x == ("__debug__" : Str)) = false := by decide) : Pu P w A env h0 (.Name x pos) (fun _ u => u = v) :=
  ⟨fun s E Q k h => wpAny_Name (wpAny_loadName_local hk hl (hn.keeps k) hv (h _ s.heap s.toks (fun _ _ z => z) rfl)) hd⟩
theorem pu_free {x : Str} {c : Addr} {v : Value} (hk : env.scope.kind = .function) (hl : env.kindOf x = some .free) (hc : env.cells.lookup x = some c) (hv : h0.IsCell c (some v)) (hd : (x == ("__debug__" : Str)) = false := by decide) (hcd : (x == ("__classdict__" : Str)) = false := by decide) : Pu P w A env h0 (.Name x pos) (fun _ u => u = v) :=
  ⟨fun s E Q k h => wpAny_Name (wpAny_loadName_free hk hl hc (by obtain ⟨o, h1, h2⟩ := hv; exact ⟨o, k _ _ h1, h2⟩) (h _ s.heap s.toks (fun _ _ z => z) rfl) hcd) hd⟩
theorem pu_im {R R' : Heap → Value → Prop} (h : Pu P w A env h0 e R) (hi : ∀ h v, R h v → R' h v) : Pu P w A env h0 e R' := ⟨fun s E Q k q => h.run s E Q k fun v h' tk k' r => q v h' tk k' (hi _ _ r)⟩
/-- t[k], of ints -/
theorem pu_sub {t : Addr} {its : Array Value} {k : Int} {j : Nat} {i : Int} (ht : IsTup h0 t its) (ha : Pu P w A env h0 a (fun _ u => u = .ref t)) (hb : Pu P w A env h0 b (RI k)) (h1 : -(2 ^ 63) ≤ k) (h2 : k < 2 ^ 63) (hj : seqIndex? k its.size = some j) (hx : ∃ u, its[j]? = some (.int i u))
    (hs : ∀ v u, subscripted b false v u = operate [v, u] (getItem v u) := by intro _ _; rfl) : Pu P w A env h0 (.Subscript a b pos) (RI i) :=
  ⟨fun s E Q kp q => Subscript_ (ha.run s E _ kp fun v h' tk k1 e1 => hb.run _ E _ (fun c o z => k1 c o (kp c o z)) fun u h'' tk2 k2 e2 => by
    subst e1
    obtain ⟨tt, rfl⟩ := e2
    obtain ⟨x, hx⟩ := hx
    have hT : IsTup h'' t its := by
      obtain ⟨o, z1, z2, z3⟩ := ht
      exact ⟨o, k2 _ _ (k1 _ _ (kp _ _ z1)), z2, z3⟩
    exact subscriptTail_builtinR (x := .int i x) hT.typeIs slot_tuple_getitem.lookup
      (getItem_tuple (j := j) (Q := fun r s' => r = .int i x ∧ Q r s') hT h1 h2 hj hx ⟨rfl, q _ h'' tk2 (fun c o z => k2 c o (k1 c o z)) ⟨_, rfl⟩⟩) (hs _ _))⟩
theorem pu_le {i j : Int} (ha : Pu P w A env h0 a (RI i)) (hb : Pu P w A env h0 b (RI j)) (hm : behindInMarks .LtE b = false := by rfl) : Pu P w A env h0 (.Compare a [.LtE] [b] pos) (RBo (decide (i ≤ j))) :=
  ⟨fun s E Q kp q => wpAny_Compare1 (ha.run s E _ kp fun v h' tk k1 e1 => hb.run _ E _ (fun c o z => k1 c o (kp c o z)) fun u h'' tk2 k2 e2 => by
    obtain ⟨t1, rfl⟩ := e1
    obtain ⟨t2, rfl⟩ := e2
    exact PyProof.Rows.le_int (q _ h'' tk2 (fun c o z => k2 c o (k1 c o z)) rfl)) hm⟩
theorem pu_tup {da db : PyData} {R1 R2 : Heap → Value → Prop} {x1} (ha : Pu P w A env h0 a R1) (hb : Pu P w A env h0 b R2) (r1 : ∀ h v, R1 h v → Reads h v da []) (r2 : ∀ h v, R2 h v → Reads h v db [])
    (hs : starEach [a, b] env = [(false, eval a env), (false, eval b env)] := by rfl) : Pu P w A env h0 (.Tuple [a, b] x1 pos) (fun h v => Reads h v (.tuple [da, db]) []) :=
  ⟨fun s E Q kp q => wpAny_Tuple_spliced (by
    rw [hs]
    show wpAny _ _ (spliced [(false, eval a env), (false, eval b env)]) _ _ _
    refine spliced_cons (ha.run s E _ kp fun v h' tk k1 e1 => spliced_cons (hb.run _ E _ (fun c o z => k1 c o (kp c o z)) fun u h'' tk2 k2 e2 => spliced_nil ⟨by show 2 ≤ sizeLine; decide, ?_⟩))
    have k3 : Kp h'' (h''.push { cls := .type "tuple", data := .seq [v, u].toArray }) := fun c o z => Heap.get?_push_of_some _ z
    refine q _ _ tk2 (fun c o z => k3 c o (k2 c o (k1 c o z))) ?_
    have e1' : Reads (h''.push { cls := .type "tuple", data := .seq [v, u].toArray }) v da [] := PyProof.Rows.Reads.keeps (fun c o z => k3 c o (k2 c o z)) (r1 _ _ e1)
    have e2' : Reads (h''.push { cls := .type "tuple", data := .seq [v, u].toArray }) u db [] := PyProof.Rows.Reads.keeps k3 (r2 _ _ e2)
    exact .tuple (Heap.get?_push_size _ rfl) rfl rfl (.cons e1' (.cons e2' .nil)))⟩
end
theorem reads_int {i : Int} : ∀ h v, RI i h v → Reads h v (.int i) [] := fun h v ⟨t, e⟩ => by rw [e]; exact .int _ _
theorem reads_bool {b : Bool} : ∀ h v, RBo b h v → Reads h v (.bool b) [] := fun h v e => by
  have e : v = .bool b := e
  rw [e]; exact .bool _
/-- a lambda of one parameter is called, and keeps all -/
theorem lam_call {P : Program} {w : World} {A : Around} {s : Shared} {f c' : Addr} {q x : Str} {params : Arguments} {body : Expr} {scope : Scope} {cl : List (Str × Addr)} {pm ctv v : Value} {d : PyData}
    (ho : s.heap.get? f = some (PySem.W.kla_obj "<lambda>" q params body scope cl pm c' ctv)) (hk : scope.kind = .function) (hco : scope.isCoroutine = false) (hgen : scope.isGenerator = false) (hcell : ∀ y ∈ scope.names, y.2 ≠ .cell) (hloc : scope.names.lookup x = some .local)
    (hcd : s.heap.CodeRec (.ref c') q) (hlim : s.heap.NoLimit) (hroom : A.depth < recursionLimit) (hbind : bindArgs (PySem.W.kla_fn "<lambda>" q params body scope cl pm (.ref c') ctv) ⟨[v], []⟩ = pure [(x, v)])
    (hbody : ∀ h₁ : Heap, Kp s.heap h₁ → h₁.Ns s.heap.objs.size (fun y => [(x, v)].reverse.lookup y) → Pu P w (A.deeper (PySem.W.envX q scope s.heap.objs.size f (.ref c') cl)) (PySem.W.envX q scope s.heap.objs.size f (.ref c') cl) h₁ body (fun h u => Reads h u d [])) :
    wpAny (model P w) A (call (.ref f) [v]) (PySem.W.KeyPure d s) (fun _ _ => False) s := by
  refine wpAny_call (PySem.W.kla_callFunE hroom ho rfl hco hgen rfl hcd ?_)
  rw [hbind]
  refine wpAny_pure (wpAny_newFunctionEnv hcell (fun y hy => by
    have : y = (x, v) := by simpa using hy
    rw [this]; exact hloc) (fun h₁ hns hsb => ⟨hlim.fresh _ hsb, ?_⟩) hk)
  show codeAny _ _ (.expr body (PySem.W.envX q scope s.heap.objs.size f (.ref c') cl)) _ _
  have hk₁ : Kp s.heap h₁ := fun b o e => hsb.extBut b o (Nat.ne_of_lt (Heap.lt_size e)) (Heap.get?_push_of_some _ e)
  exact PySem.W.kla_codeExpr ((hbody h₁ hk₁ hns).run _ _ _ (fun _ _ z => z) fun u h' tk k r => ⟨h', tk, rfl, fun b o z => k b o (hk₁ b o z), r⟩)
/-! the order -/
def leL : List Int → List Int → Bool
  | [], _ => true
  | _ :: _, [] => false
  | x :: xs, y :: ys => decide (x < y) || (decide (x = y) && leL xs ys)
def tkI : List Int → List (Int ⊕ List Nat)
  | [] => [.inl 0]
  | x :: xs => .inl 1 :: .inl x :: tkI xs
theorem tk_ints : ∀ xs : List Int, PySem.W.keyToksAll (xs.map PyData.int) = tkI xs
  | [] => rfl
  | x :: xs => by
    show PySem.W.keyToksAll (PyData.int x :: xs.map PyData.int) = _
    rw [PySem.W.toks_all_cons, tk_ints xs]
    rfl
theorem blt_inl (a b : Int) : (PyProof.Rows.itemOrd).blt (.inl a) (.inl b) = decide (a < b) := rfl
theorem le_rows : ∀ xs ys : List Int, (!lexLt PyProof.Rows.itemOrd (tkI ys) (tkI xs)) = leL xs ys
  | [], [] => rfl
  | [], y :: ys => rfl
  | x :: xs, [] => rfl
  | x :: xs, y :: ys => by
    unfold tkI leL
    rw [lex_self (O := PyProof.Rows.itemOrd), lex_cons (O := PyProof.Rows.itemOrd), blt_inl, blt_inl, ← le_rows xs ys]
    by_cases h1 : y < x
    · have h2 : ¬ x < y := by omega
      have h3 : ¬ x = y := by omega
      simp [h1, h2, h3]
    · by_cases h2 : x < y
      · simp [h1, h2]
      · have h3 : x = y := by omega
        subst h3
        simp
end Lk

namespace Lk
open PySem PySem.Spec PySem.Calls PyProof.Rows L2 LamX
/-! ### a lambda as a value -/
structure ExtT (H H' : Hp) : Prop where
  ne : ∀ b o, H b = some o → (∀ ps, o ≠ .tbl ps) → H' b = some o
  tb : ∀ b ps, H b = some (.tbl ps) → ∃ ps', H' b = some (.tbl ps')
theorem ExtT.refl (H : Hp) : ExtT H H := ⟨fun _ _ h _ => h, fun _ ps h => ⟨ps, h⟩⟩
def LamO (f : Addr) (q : Str) (params : Arguments) (body : Expr) (scope : Scope) (cl : List (Str × Addr)) (c' : Addr) : HO := .ext fun h => ∃ pm ctv : Value, h.get? f = some (PySem.W.kla_obj "<lambda>" q params body scope cl pm c' ctv)
section
variable {X : Cx} {pins : List (Addr × Obj)} {σ : L2.St} {H : Hp} {s : Shared}
theorem lam_ok {P : Program} {w : World} {H : Hp} {h : Heap} {f c' : Addr} {q : Str} {params : Arguments} {body : Expr} {scope : Scope} {cl : List (Str × Addr)} {pm ctv : Value} (e : h.get? f = some (PySem.W.kla_obj "<lambda>" q params body scope cl pm c' ctv)) : ObjOk P w H h f (LamO f q params body scope cl c') :=
  ⟨⟨pm, ctv, e⟩, ⟨_, e⟩, fun h1 h2 ⟨pm, ctv, e⟩ k => ⟨pm, ctv, k _ e⟩⟩
/-- a code object's row is put into the table at P -/
theorem code_in {T : List (Addr × Str)} {P c' : Addr} {q : Str} {ps : Array Value} {pos : Pos} (hT : Tabs T H) (hm : (P, q) ∈ T) (hu : ∀ p ∈ T, p.1 = P → p.2 = q) (hP : H P = some (.tbl ps)) (nC : H c' = none) :
    ExtT H (upd (upd H P (.tbl (ps ++ #[rawInt pos.line, rawInt pos.col, .ref c']))) c' (CodeO c' q)) ∧ Tabs T (upd (upd H P (.tbl (ps ++ #[rawInt pos.line, rawInt pos.col, .ref c']))) c' (CodeO c' q)) := by
  generalize hH : upd (upd H P (.tbl (ps ++ #[rawInt pos.line, rawInt pos.col, .ref c']))) c' (CodeO c' q) = H1
  have off : ∀ b o, b ≠ P → H b = some o → H1 b = some o := fun b o n e => by rw [← hH, upd_ne (ne_of_none e nC), upd_ne n]; exact e
  have atP : H1 P = some (.tbl (ps ++ #[rawInt pos.line, rawInt pos.col, .ref c'])) := by rw [← hH, upd_ne (ne_of_none hP nC)]; exact upd_same
  have atC : H1 c' = some (CodeO c' q) := hH ▸ upd_same
  have notTbl : ∀ b o, (∀ qs, o ≠ .tbl qs) → H b = some o → b ≠ P := fun b o n e z => n ps (Option.some.inj (e.symm.trans (z ▸ hP)))
  have code : ∀ {c0 : Addr} {r : Str}, H c0 = some (CodeO c0 r) → H1 c0 = some (CodeO c0 r) := fun e => off _ _ (notTbl _ _ codeO_ne e) e
  refine ⟨⟨fun b o e n => off b o (notTbl b o n e) e, fun b qs e => ?_⟩, fun p hp => ?_⟩
  · exact (Decidable.em (b = P)).elim (fun z => ⟨_, z ▸ atP⟩) fun z => ⟨qs, off _ _ z e⟩
  · rcases Decidable.em (p.1 = P) with z | z
    · obtain ⟨ps0, d1, d2, d3⟩ := hT _ hm
      cases Option.some.inj (hP.symm.trans d1)
      refine hu p hp z ▸ z ▸ ⟨_, atP, ?_, fun p' cv hcv => ?_⟩
      · simpa using PySem.TriplesOk_snoc _ _ _ _ d2
      · rw [Array.toList_append] at hcv
        exact (among_app _ d2 hcv).elim (fun k => (d3 p' cv k).imp fun c0 k => ⟨k.1, code k.2⟩) fun k => ⟨c', k, atC⟩
    · obtain ⟨qs, d1, d2, d3⟩ := hT p hp
      exact ⟨qs, off _ _ z d1, d2, fun p' cv k => (d3 p' cv k).imp fun c0 k => ⟨k.1, code k.2⟩⟩
/-- t makes a function object at a new place f, with a code object at c': a new one, whose row goes into the table at P, or the one that stands there -/
structure Maker (M : Model) (A : Around) (s : Shared) (P : Addr) (pos : Pos) (q : Str) (t : Sem Value) (ok : Addr → Addr → Heap → Prop) : Prop where
  new : ∀ (ps : Array Value) (Q E : Value → Shared → Prop), s.heap.get? P = some (PySem.W.tabObj ps) → TriplesOk ps.toList → codeAmong pos ps.toList = none →
    (∀ (c' : Addr) (h1 h2 : Heap) (tk : Nat), Heap.ExtBut P s.heap h1 → s.heap.objs.size ≤ c' → h1.CodeRec (.ref c') q → h1.get? P = some (PySem.W.tabObj (ps ++ #[rawInt pos.line, rawInt pos.col, .ref c'])) → (∀ b o, h1.get? b = some o → h2.get? b = some o) → ok h1.objs.size c' h2 →
      Q (.ref h1.objs.size) { s with heap := h2, toks := tk }) → wpAny M A t Q E s
  old : ∀ (ps : Array Value) (c' : Addr) (Q E : Value → Shared → Prop), s.heap.get? P = some (PySem.W.tabObj ps) → TriplesOk ps.toList → codeAmong pos ps.toList = some (.ref c') →
    (∀ (h1 h2 : Heap) (tk : Nat), (∀ b o, s.heap.get? b = some o → h1.get? b = some o) → (∀ b o, h1.get? b = some o → h2.get? b = some o) → ok h1.objs.size c' h2 → Q (.ref h1.objs.size) { s with heap := h2, toks := tk }) → wpAny M A t Q E s
theorem lam_laid {T : List (Addr × Str)} {P : Addr} {q : Str} {pos : Pos} {t : Sem Value} {ok : Addr → Addr → Heap → Prop} {E Q : Value → Shared → Prop} (O : Addr → Addr → HO) (mk : Maker (model X.prog X.w) X.A s P pos q t ok) (I : Inv X pins σ H s) (hT : Tabs T H)
    (hm : (P, q) ∈ T) (hu : ∀ p ∈ T, p.1 = P → p.2 = q) (hO : ∀ {f c' : Addr} {h : Heap} {H' : Hp}, ok f c' h → ObjOk X.prog X.w H' h f (O f c'))
    (h : ∀ (f c' : Addr) (H1 : Hp) (s' : Shared), Inv X pins σ (upd H1 f (O f c')) s' → ExtT H H1 → Tabs T H1 → H1 f = none → H1 c' = some (CodeO c' q) → Q (.ref f) s') : wpAny (model X.prog X.w) X.A t Q E s := by
  obtain ⟨ps, hP, trip, among⟩ := hT _ hm
  rcases hc : codeAmong pos ps.toList with _ | cv
  · refine mk.new ps _ _ (I.hok P _ hP) trip hc ?_
    rintro c' h1 h2 tk x1 ge ⟨c2, oc, vs, t2, e2, y1, y2, y3⟩ x2 x3 x4
    cases e2
    have nC : H c' = none := I.hok.fresh ge
    obtain ⟨e1, t1⟩ := code_in (pos := pos) hT hm hu hP nC
    have J := inv_table (t' := tk) (more := #[rawInt pos.line, rawInt pos.col, .ref c']) I hP x1 x2 ge ⟨oc, vs, t2, y1, y2, y3⟩
    exact h _ c' _ _ (J.laid (t' := tk) x3 (Nat.le_refl _) (hO x4)) e1 t1 (J.hok.fresh (Nat.le_refl _)) upd_same
  · obtain ⟨c', rfl, code⟩ := among pos cv hc
    refine mk.old ps c' _ _ (I.hok P _ hP) trip hc fun h1 h2 tk x1 x3 x4 => ?_
    have J : Inv X pins σ H { s with heap := h1, toks := tk } := I.kept x1
    exact h _ c' H _ (J.laid (t' := tk) x3 (Nat.le_refl _) (hO x4)) (.refl H) hT (J.hok.fresh (Nat.le_refl _)) code
theorem lam_make3 {T : List (Addr × Str)} {c P : Addr} {params : Arguments} {body : Expr} {scope : Scope} {pos : Pos} {E : Value → Shared → Prop} {Q : Value → Shared → Prop} (I : Inv X pins σ H s) (TB : TabB X.base X.mg c P) (hcode : X.env.code = .ref c) (hT : Tabs T H) (hdef : defaultsOf params X.env = ([], []))
    (hm : (P, X.env.qual ++ "<lambda>") ∈ T) (hu : ∀ p ∈ T, p.1 = P → p.2 = X.env.qual ++ "<lambda>") (hfree : ∀ y ∈ scope.names, y.2 = .free → ∃ c, X.env.cells.lookup y.1 = some c)
    (h : ∀ (f c' : Addr) (H1 : Hp) (s' : Shared), Inv X pins σ (upd H1 f (LamO f (X.env.qual ++ "<lambda>") params body scope (cloFrom X.env.cells scope.names []) c')) s' → ExtT H H1 → Tabs T H1 → H1 f = none → H1 c' = some (CodeO c' (X.env.qual ++ "<lambda>")) → Q (.ref f) s') :
    wpAny (model X.prog X.w) X.A (eval (.Lambda params body scope pos) X.env) Q E s := by
  refine PySem.W.kla_eval hdef (lam_laid (pos := pos) (fun f c' => LamO f (X.env.qual ++ "<lambda>") params body scope (cloFrom X.env.cells scope.names []) c')
    (ok := fun f c' h => ∃ pm ctv : Value, h.get? f = some (PySem.W.kla_obj "<lambda>" (X.env.qual ++ "<lambda>") params body scope (cloFrom X.env.cells scope.names []) pm c' ctv)) ⟨fun ps Q E z1 z2 z3 go => ?_, fun ps c' Q E z1 z2 z3 go => ?_⟩ I hT hm hu (fun ⟨_, _, e⟩ => lam_ok e) h)
  · exact PySem.W.kla_makeFunction (mg := X.mg) (closure_ok hfree) I.ok.glob (I.mod.glob.keeps I.bk) hcode (TB.code.keeps I.bk) z1 z2 z3 TB.gP (TB.bm.keeps I.bk) fun c' ctv h' tk y1 y2 _ y3 y4 => go c' h' _ tk y1 y2 y3 y4 (fun b o => Heap.get?_push_of_some _) ⟨_, _, Heap.get?_push_size _ rfl⟩
  · exact PySem.W.kla_makeFunctionHit (mg := X.mg) (closure_ok hfree) I.ok.glob (I.mod.glob.keeps I.bk) hcode (TB.code.keeps I.bk) z1 z2 z3 (TB.bm.keeps I.bk) fun ctv h' tk y1 _ => go h' _ tk y1 (fun b o => Heap.get?_push_of_some _) ⟨_, _, Heap.get?_push_size _ rfl⟩
/-- a lambda, without defaults -/
def tLamE (X : Cx) (T : List (Addr × Str)) (params : Arguments) (body : Expr) (scope : Scope) : TE := fun _ H Q => Tabs T H ∧ ∀ (f c' : Addr) (H1 : Hp), ExtT H H1 → Tabs T H1 → H1 f = none → H1 c' = some (CodeO c' (X.env.qual ++ "<lambda>")) →
  Q (.ref f) (upd H1 f (LamO f (X.env.qual ++ "<lambda>") params body scope (cloFrom X.env.cells scope.names []) c'))
theorem pe_lam {T : List (Addr × Str)} {c P : Addr} {params : Arguments} {body : Expr} {scope : Scope} {pos : Pos} (TB : TabB X.base X.mg c P) (hcode : X.env.code = .ref c)
    (hm : (P, X.env.qual ++ "<lambda>") ∈ T) (hu : ∀ p ∈ T, p.1 = P → p.2 = X.env.qual ++ "<lambda>") (hdef : defaultsOf params X.env = ([], [])) (hfree : ∀ y ∈ scope.names, y.2 = .free → X.env.scope.names.lookup y.1 = some .cell ∨ X.env.scope.names.lookup y.1 = some .free) :
    PE X (.Lambda params body scope pos) (tLamE X T params body scope) := by
  exact ⟨fun pins s σ H Q I ⟨hT, h⟩ => lam_make3 I TB hcode hT hdef hm hu (fun y hy e => I.ok.has _ (hfree y hy e)) fun f c' H1 s' I1 e1 t1 n1 k1 => ⟨.ref f, _, I1, rfl, h f c' H1 e1 t1 n1 k1⟩⟩
end
/-! ### sorted by a lambda -/
/-- the lambda's names: one parameter, captured ones -/
structure LamP (sc scope : Scope) (x : Str) : Prop where
  kind : scope.kind = .function
  plain : scope.isCoroutine = false ∧ scope.isGenerator = false
  loc : scope.names.lookup x = some .local
  names : ∀ y ∈ scope.names, y.2 ≠ .cell ∧ (y.2 = .free → sc.names.lookup y.1 = some .cell ∨ sc.names.lookup y.1 = some .free)
theorem LamP.free {sc scope : Scope} {x : Str} (L : LamP sc scope x) : ∀ y ∈ scope.names, y.2 = .free → sc.names.lookup y.1 = some .cell ∨ sc.names.lookup y.1 = some .free := fun y hy => (L.names y hy).2
def lamPB (sc scope : Scope) (x : Str) : Bool :=
  (scope.kind == .function && (!scope.isCoroutine && !scope.isGenerator)) && (decide (scope.names.lookup x = some .local) && scope.names.all fun y => !decide (y.2 = .cell) && (!decide (y.2 = .free) || (decide (sc.names.lookup y.1 = some .cell) || decide (sc.names.lookup y.1 = some .free))))
theorem lamP_by {sc scope : Scope} {x : Str} (h : lamPB sc scope x = true) : LamP sc scope x := by
  simp only [lamPB, Bool.and_eq_true, Bool.not_eq_true', beq_iff_eq, List.all_eq_true] at h
  refine ⟨h.1.1, h.1.2, by simpa using h.2.1, fun y hy => ?_⟩
  have q := h.2.2 y hy
  simpa [Decidable.imp_iff_not_or, -not_or] using q
abbrev lEnv (X : Cx) (scope : Scope) (L f c' : Addr) : Env := PySem.W.envX (X.env.qual ++ "<lambda>") scope L f (.ref c') (cloFrom X.env.cells scope.names [])
/-- what is asked of the lambda's body: on a tuple of the ints xs it gives the key kd z xs -/
def KeyB (X : Cx) (scope : Scope) (x : Str) (body : Expr) (pre : L2.St → Int → Prop) (kd : Int → List Int → PyData) (n : Nat) : Prop :=
  ∀ (pins : List (Addr × Obj)) (σ : L2.St) (H : Hp) (s : Shared) (z : Int) (f c' L t : Addr) (A : Around) (h₁ : Heap) (its : Array Value) (xs : List Int), Inv X pins σ H s → pre σ z → Kp s.heap h₁ → IsTup h₁ t its → IntsAre its.toList xs → xs.length = n →
    h₁.Ns L (fun y => [(x, Value.ref t)].reverse.lookup y) → Pu X.prog X.w A (lEnv X scope L f c') h₁ body (fun h u => Reads h u (kd z xs) [])
def tSortLam (X : Cx) (T : List (Addr × Str)) (params : Arguments) (body : Expr) (scope : Scope) (te : TE) (pre : L2.St → Int → Prop) (kf : Int → List Int → List Int) (n : Nat) : TE := fun σ H Q => te σ H fun x H0 => Tabs T H0 ∧ ∀ (f c' : Addr) (H1 : Hp), ExtT H0 H1 → Tabs T H1 → H1 f = none → H1 c' = some (CodeO c' (X.env.qual ++ "<lambda>")) →
  ∃ (a : Addr) (its : List (Addr × List Int)) (z : Int), x = .ref a ∧ pre σ z ∧ SqL X.K H1 a (its.map fun p => V.ref p.1) ∧ (∀ p ∈ its, SqT X.K H1 p.1 (p.2.map V.int) ∧ p.2.length = n) ∧
    ∀ p, upd H1 f (LamO f (X.env.qual ++ "<lambda>") params body scope (cloFrom X.env.cells scope.names []) c') p = none → Q (.ref p) (upd (upd H1 f (LamO f (X.env.qual ++ "<lambda>") params body scope (cloFrom X.env.cells scope.names []) c')) p (.lst ((its.mergeSort fun p q => leL (kf z p.2) (kf z q.2)).map fun p => V.ref p.1)))
section
variable {X : Cx}
theorem pe_sortLam {T : List (Addr × Str)} {c P : Addr} {x : Str} {params : Arguments} {body : Expr} {scope : Scope} {p pos : Pos} {e : Expr} {te : TE} {kws : List Keyword} {pre : L2.St → Int → Prop} {kf : Int → List Int → List Int} {kd : Int → List Int → PyData} {n k : Nat}
    (hg : Gl X "sorted") (hm : X.mg "sorted" = none) (he : PE X e te) (TB : TabB X.base X.mg c P) (hcode : X.env.code = .ref c) (hmT : (P, X.env.qual ++ "<lambda>") ∈ T) (hu : ∀ p ∈ T, p.1 = P → p.2 = X.env.qual ++ "<lambda>")
    (hdef : defaultsOf params X.env = ([], [])) (L : LamP X.env.scope scope x) (hB : KeyB X scope x body pre kd n)
    (hkd : ∀ z, (∀ xs : List Int, (kd z xs).depth = 1) ∧ (∀ xs ys : List Int, PySem.W.alike (kd z xs) (kd z ys) = true ∧ ∃ y r, kd z xs = .tuple (y :: r)) ∧ (∀ xs ys : List Int, (!PySem.W.dataLt (kd z ys) (kd z xs)) = leL (kf z xs) (kf z ys)))
    (hbind : ∀ (cl : List (Str × Addr)) (pm cv ctv v : Value), bindArgs (PySem.W.kla_fn "<lambda>" (X.env.qual ++ "<lambda>") params body scope cl pm cv ctv) ⟨[v], []⟩ = pure [(x, v)])
    (hr : Room k X.A) (hk : PK X kws (tCons (tLamE X T params body scope) tNil))
    (hst : backTo pos (starEach [e] X.env) = (false, eval e X.env) :: backTo pos (starEach [] X.env) := by rfl) (hst2 : starEach [e] X.env = (false, eval e X.env) :: starEach [] X.env := by rfl) (hpl : (backTo pos (starEach [e] X.env)).any (·.1) = false := by rfl)
    (hall : (backToKw pos (keywordEach kws X.env)).all (·.1.isSome) = true := by rfl) (hnone : (backToKw pos (keywordEach kws X.env)).any (·.1.isNone) = false := by rfl) (hks : (backToKw pos (keywordEach kws X.env)).filterMap (·.1) = [Str.ofString "key"] := by rfl) :
    PE X (.Call (.Name "sorted" p) [e] kws pos) (tSortLam X T params body scope te pre kf n) := by
  refine ⟨fun pins s σ H Q I h => ?_⟩
  refine wpAny_Call_Name_kw (ld_blt I hg hm (by decide +kernel : bootBuiltins ("sorted" : Str) = some (.builtin "sorted")) ?_)
  refine PyProof.Rows.callWith_kw (thn ((pa_cons he pa_nil hst2).run pos pins s σ H (fun vs H0 => match vs with
    | [x'] => (Tabs T H0 ∧ ∀ (f c' : Addr) (H1 : Hp), ExtT H0 H1 → Tabs T H1 → H1 f = none → H1 c' = some (CodeO c' (X.env.qual ++ "<lambda>")) →
      ∃ (a : Addr) (its : List (Addr × List Int)) (z : Int), x' = .ref a ∧ pre σ z ∧ SqL X.K H1 a (its.map fun p => V.ref p.1) ∧ (∀ p ∈ its, SqT X.K H1 p.1 (p.2.map V.int) ∧ p.2.length = n) ∧
        ∀ p, upd H1 f (LamO f (X.env.qual ++ "<lambda>") params body scope (cloFrom X.env.cells scope.names []) c') p = none → Q (.ref p) (upd (upd H1 f (LamO f (X.env.qual ++ "<lambda>") params body scope (cloFrom X.env.cells scope.names []) c')) p (.lst ((its.mergeSort fun p q => leL (kf z p.2) (kf z q.2)).map fun p => V.ref p.1))))
    | _ => False) I h) fun us s1 ⟨vs, H0, I0, r0, q0⟩ => ?_) hst hpl hall hnone
  dsimp only at q0
  split at q0
  case h_2 => exact q0.elim
  rename_i x'
  obtain ⟨hT, q0⟩ := q0
  cases r0 with | cons rx rr => ?_
  cases rr
  refine thn (hk.run pos pins s1 σ H0 (fun zs H2 => match zs with
    | [y] => ∃ (f c' : Addr) (H1 : Hp), y = .ref f ∧ ExtT H0 H1 ∧ Tabs T H1 ∧ H1 f = none ∧ H1 c' = some (CodeO c' (X.env.qual ++ "<lambda>")) ∧ H2 = upd H1 f (LamO f (X.env.qual ++ "<lambda>") params body scope (cloFrom X.env.cells scope.names []) c')
    | _ => False) I0 ⟨hT, fun f c' H1 e1 t1 n1 k1 => ⟨f, c', H1, rfl, e1, t1, n1, k1, rfl⟩⟩) fun ws s2 ⟨zs, H2, I2, r2, q2⟩ => ?_
  dsimp only at q2
  split at q2
  case h_2 => exact q2.elim
  rename_i y
  obtain ⟨f, c', H1, rfl, e1, t1, n1, k1, rfl⟩ := q2
  cases r2 with | cons ry rr => ?_
  cases rr
  cases ry
  rw [hks]
  obtain ⟨a, its, z, rfl, hpre, hsq, hit, q⟩ := q0 f c' H1 e1 t1 n1 k1
  cases rx
  show wpAny _ _ (call (.builtin "sorted") [.ref a] [(Str.ofString "key", .ref f)]) _ _ _
  have nf : ∀ b u, H1 b = some u → b ≠ f := fun b u e z => by rw [z, n1] at e; cases e
  have up1 : ∀ b u, H1 b = some u → upd H1 f (LamO f (X.env.qual ++ "<lambda>") params body scope (cloFrom X.env.cells scope.names []) c') b = some u := fun b u e => by rw [upd_ne (nf b u e)]; exact e
  have hsq2 : SqL X.K (upd H1 f (LamO f (X.env.qual ++ "<lambda>") params body scope (cloFrom X.env.cells scope.names []) c')) a (its.map fun p => V.ref p.1) := by
    rcases hsq with (h | ⟨o, h⟩) | h
    · exact .inl (.inl (up1 _ _ h))
    · exact .inl (.inr ⟨o, up1 _ _ h⟩)
    · exact .inr h
  have hit2 : ∀ p ∈ its, SqT X.K (upd H1 f (LamO f (X.env.qual ++ "<lambda>") params body scope (cloFrom X.env.cells scope.names []) c')) p.1 (p.2.map V.int) ∧ p.2.length = n := fun p hp => by
    obtain ⟨h, hn⟩ := hit p hp
    refine ⟨?_, hn⟩
    rcases h with (h | ⟨o, h⟩) | h
    · exact .inl (.inl (up1 _ _ h))
    · exact .inl (.inr ⟨o, up1 _ _ h⟩)
    · exact .inr h
  obtain ⟨us, rv, pl, hz⟩ := I2.list hsq2
  have hus : us = its.map fun p => Value.ref p.1 := by
    clear pl hz hsq hsq2 hit hit2 q q0
    induction its generalizing us with
    | nil => cases rv; rfl
    | cons p its ih =>
      cases rv with
      | cons r rr =>
        cases r
        rw [ih _ rr]
        rfl
  have hex : PySem.W.EachIs (fun (v : Value) (p : Addr × List Int) => v = .ref p.1 ∧ p ∈ its) us its := by
    rw [hus]
    have : ∀ l : List (Addr × List Int), (∀ p ∈ l, p ∈ its) → PySem.W.EachIs (fun (v : Value) (p : Addr × List Int) => v = .ref p.1 ∧ p ∈ its) (l.map fun p => Value.ref p.1) l := fun l => by
      induction l with
      | nil => exact fun _ => .nil
      | cons p l ih => exact fun hl => .cons ⟨rfl, hl p (List.mem_cons_self ..)⟩ (ih fun p' hp' => hl p' (List.mem_cons_of_mem _ hp'))
    exact this its fun p hp => hp
  obtain ⟨⟨pm, ctv, hfo⟩, _, _⟩ := I2.hok f _ upd_same
  obtain ⟨⟨oc, cvs, tq, hoc, hdc, hvc⟩, _, _⟩ := I2.hok c' _ (up1 _ _ k1)
  have hal : PySem.W.AllAlike (its.map fun p => kd z p.2) := fun d hd d' hd' => by
    obtain ⟨p1, hp1, rfl⟩ := List.mem_map.mp hd
    obtain ⟨p2, hp2, rfl⟩ := List.mem_map.mp hd'
    exact ((hkd z).2.1 _ _).1
  have hso : PySem.W.Sortable (its.map fun p => kd z p.2) := .inl fun d hd => by
    obtain ⟨p1, hp1, rfl⟩ := List.mem_map.mp hd
    exact ((hkd z).2.1 _ p1.2).2
  have hlen : its.length ≤ sizeLine := by
    have := hz
    rw [List.length_map] at this
    exact this
  have hroom : X.A.in1.in1.depth < recursionLimit := by
    show X.A.depth < recursionLimit
    have := hr.dp; omega
  have hun : X.A.units + 3 < cLine := by have := hr.un; omega
  refine PySem.W.sorted_key_data (b := false) (fun p : Addr × List Int => kd z p.2) pl.isList hex hal hso hlen (fun p hp => ?_) (PyProof.Rows.ksk_s1 _ _) (fun _ => PyProof.Rows.ksk_l1 _ _) (fun _ => PyProof.Rows.ksk_t1 _ _)
    (fun v p hv hp h tk kp => ?_) fun out ep h' tk kp hno hD hol eo => ?_
  · rw [(hkd z).1 p.2]; omega
  · obtain ⟨rfl, _⟩ := hv
    obtain ⟨its', rt, ht, hzt⟩ := I2.tuple (hit2 p hp).1
    have hints : IntsAre (its'.toArray).toList p.2 := by
      simpa using rt.ints
    refine lam_call (s := { s2 with heap := h, toks := tk }) (x := x) (params := params) (body := body) (scope := scope) (kp _ _ hfo) L.kind L.plain.1 L.plain.2 (fun y hy => (L.names y hy).1) L.loc ⟨c', oc, cvs, tq, rfl, kp _ _ hoc, hdc, hvc⟩ (I2.nolimit.keeps kp) hroom (hbind _ _ _ _ _) fun h₁ k₁ ns₁ => ?_
    refine hB pins σ _ s2 z f c' h.objs.size p.1 _ h₁ its'.toArray p.2 I2 hpre (fun b o e => k₁ b o (kp b o e)) ?_ hints (hit p hp).2 ns₁
    obtain ⟨o, z1, z2, z3⟩ := ht
    exact ⟨o, k₁ _ _ (kp _ _ z1), z2, z3⟩
  · have hH2 := I2
    have key : out = (its.mergeSort fun p q => leL (kf z p.2) (kf z q.2)).map fun p => Value.ref p.1 := by
      have e1 : its.mergeSort (PySem.W.dataLe false fun p : Addr × List Int => kd z p.2) = its.mergeSort fun p q => leL (kf z p.2) (kf z q.2) := by
        have : PySem.W.dataLe false (fun p : Addr × List Int => kd z p.2) = fun p q => leL (kf z p.2) (kf z q.2) := by
          funext p q
          exact (hkd z).2.2 p.2 q.2
        rw [this]
      rw [e1] at eo
      clear hD hol
      generalize its.mergeSort (fun p q => leL (kf z p.2) (kf z q.2)) = l at eo
      induction eo with
      | nil => rfl
      | cons h _ ih => rw [h.1, ih]; rfl
    subst key
    have hl2 : ((its.mergeSort fun p q => leL (kf z p.2) (kf z q.2)).map fun p => V.ref p.1).length ≤ sizeLine := by
      rw [List.length_map, List.length_mergeSort]; exact hlen
    have hvals : Vals ((its.mergeSort fun p q => leL (kf z p.2) (kf z q.2)).map fun p => V.ref p.1) ((its.mergeSort fun p q => leL (kf z p.2) (kf z q.2)).map fun p => Value.ref p.1) := by
      generalize its.mergeSort (fun p q => leL (kf z p.2) (kf z q.2)) = l
      induction l with
      | nil => exact .nil
      | cons p l ih => exact .cons rfl ih
    have hf0 := I2.hok.fresh (Nat.le_succ s2.heap.objs.size)
    exact ⟨.ref (s2.heap.objs.size + 1), _, I2.laid (a := s2.heap.objs.size + 1) (o := .lst ((its.mergeSort fun p q => leL (kf z p.2) (kf z q.2)).map fun p => V.ref p.1)) (h' := h') (t' := tk) kp (Nat.le_succ _) ⟨hl2, _, ep, hvals, by simpa using hD⟩, rfl, q _ hf0⟩
end
/-! the bodies: (x[0] <= last, x[0]), (x[j], x[0]) -/
def kdJ (j : Nat) : Int → List Int → PyData := fun _ xs => .tuple [.int (xs.getD j 0), .int (xs.getD 0 0)]
def kfJ (j : Nat) : Int → List Int → List Int := fun _ xs => [xs.getD j 0, xs.getD 0 0]
def kdL : Int → List Int → PyData := fun z xs => .tuple [.bool (decide (xs.getD 0 0 ≤ z)), .int (xs.getD 0 0)]
def kfL : Int → List Int → List Int := fun z xs => [if xs.getD 0 0 ≤ z then 1 else 0, xs.getD 0 0]
theorem lt_toks (x y : PyData) : PySem.W.dataLt x y = lexLt PyProof.Rows.itemOrd (PySem.W.keyToks x) (PySem.W.keyToks y) := rfl
theorem toks_2 (a b : Int) : PySem.W.keyToks (.tuple [.int a, .int b]) = tkI [a, b] := tk_ints [a, b]
theorem toks_b (k : Bool) (b : Int) : PySem.W.keyToks (.tuple [.bool k, .int b]) = tkI [if k = true then 1 else 0, b] := by
  rw [← toks_2]; rfl
theorem hkJ (j : Nat) (z : Int) : (∀ xs : List Int, (kdJ j z xs).depth = 1) ∧ (∀ xs ys : List Int, PySem.W.alike (kdJ j z xs) (kdJ j z ys) = true ∧ ∃ y r, kdJ j z xs = .tuple (y :: r)) ∧ (∀ xs ys : List Int, (!PySem.W.dataLt (kdJ j z ys) (kdJ j z xs)) = leL (kfJ j z xs) (kfJ j z ys)) := by
  refine ⟨fun xs => by simp [kdJ, PyData.depth, PyData.depthAll], fun xs ys => ⟨by simp [kdJ, PySem.W.alike, PySem.W.alikeAll], _, _, rfl⟩, fun xs ys => ?_⟩
  unfold kdJ kfJ
  rw [lt_toks, toks_2, toks_2, le_rows]
theorem hkL (z : Int) : (∀ xs : List Int, (kdL z xs).depth = 1) ∧ (∀ xs ys : List Int, PySem.W.alike (kdL z xs) (kdL z ys) = true ∧ ∃ y r, kdL z xs = .tuple (y :: r)) ∧ (∀ xs ys : List Int, (!PySem.W.dataLt (kdL z ys) (kdL z xs)) = leL (kfL z xs) (kfL z ys)) := by
  refine ⟨fun xs => by simp [kdL, PyData.depth, PyData.depthAll], fun xs ys => ⟨by simp [kdL, PySem.W.alike, PySem.W.alikeAll], _, _, rfl⟩, fun xs ys => ?_⟩
  unfold kdL kfL
  rw [lt_toks, toks_b, toks_b, le_rows]
  simp only [decide_eq_true_eq]
section
variable {X : Cx} {scope : Scope} {x y : Str} {n j i : Nat} {p1 p2 p3 p4 p5 p6 p7 p8 p9 : Pos} {k1 k2 k3 t1 : Nat}
theorem ints_get {vs : List Value} {xs : List Int} {j : Nat} (h : IntsAre vs xs) (hj : j < xs.length) : ∃ u, vs[j]? = some (.int (xs.getD j 0) u) := by
  induction h generalizing j with
  | nil => simp at hj
  | cons n t _ ih =>
    cases j with
    | zero => exact ⟨t, rfl⟩
    | succ j => simpa using ih (j := j) (by simpa using hj)
theorem item_of {P : Program} {w : World} {A : Around} {env : Env} {h₁ : Heap} {t : Addr} {its : Array Value} {xs : List Int} {k : Nat} {pa pb pc : Pos} (hk : env.scope.kind = .function) (hl : env.kindOf x = some .local) (hx : (x == ("__debug__" : Str)) = false)
    (ht : IsTup h₁ t its) (hi : IntsAre its.toList xs) (hj : k < xs.length) (hz : xs.length ≤ 1000) (hn : h₁.Ns env.locals (fun y => [(x, Value.ref t)].reverse.lookup y)) {kk} :
    Pu P w A env h₁ (.Subscript (.Name x pa) (.Constant (.int (k : Nat)) kk pb) pc) (RI (xs.getD k 0)) := by
  have hlen : its.size = xs.length := by
    have := hi.length
    simpa using this
  have hj2 : (k : Int) < its.size := by rw [hlen]; omega
  refine pu_sub (k := ((k : Nat) : Int)) (j := k) ht (pu_loc hk hl hn (by simp) hx) pu_const (by omega) (by omega) (by rw [seqIndex_of (by omega) hj2]; simp) ?_
  obtain ⟨u, hu⟩ := ints_get hi hj
  exact ⟨u, by simpa using hu⟩
theorem keyB_J (L : LamP X.env.scope scope x) (hj : j < n) (hn : n ≤ 1000) (hx : (x == ("__debug__" : Str)) = false := by decide) :
    KeyB X scope x (.Tuple [.Subscript (.Name x p1) (.Constant (.int (j : Nat)) k1 p2) p3, .Subscript (.Name x p4) (.Constant (.int (0 : Nat)) k2 p5) p6] t1 p7) (fun _ _ => True) (kdJ j) n := by
  intro pins σ H s z f c' Lf t A h₁ its xs I _ kp ht hi hl hns
  exact pu_tup (item_of (env := lEnv X scope Lf f c') L.kind L.loc hx ht hi (by omega) (by omega) hns) (item_of (env := lEnv X scope Lf f c') (k := 0) L.kind L.loc hx ht hi (by omega) (by omega) hns) reads_int reads_int
theorem keyB_L (L : LamP X.env.scope scope x) (hn0 : 0 < n) (hn : n ≤ 1000) (hN : X.N[i]? = some y) (hfr : scope.names.lookup y = some .free) (hcell : X.env.scope.names.lookup y = some .cell) (hx : (x == ("__debug__" : Str)) = false := by decide) (hy : (y == ("__debug__" : Str)) = false := by decide) (hy2 : (y == ("__classdict__" : Str)) = false := by decide) :
    KeyB X scope x (.Tuple [.Compare (.Subscript (.Name x p1) (.Constant (.int (0 : Nat)) k1 p2) p3) [.LtE] [.Name y p8] p9, .Subscript (.Name x p4) (.Constant (.int (0 : Nat)) k2 p5) p6] t1 p7) (fun σ z => σ[i]? = some (some (.int z))) kdL n := by
  intro pins σ H s z f c' Lf t A h₁ its xs I hz kp ht hi hl hns
  refine pu_tup (pu_le (item_of (env := lEnv X scope Lf f c') (k := 0) L.kind L.loc hx ht hi (by omega) (by omega) hns) (j := z) ?_) (item_of (env := lEnv X scope Lf f c') (k := 0) L.kind L.loc hx ht hi (by omega) (by omega) hns) reads_bool reads_int
  obtain ⟨m, hm, hlook⟩ := I.loc
  obtain ⟨u, ru, q⟩ := hlook i y _ hN hz (.inr (.inl hcell))
  rcases q with ⟨k', _⟩ | ⟨_, c, e', hc⟩
  · have k' : X.env.scope.names.lookup y = some .local := k'
    rw [hcell] at k'; cases k'
  · obtain ⟨c1, h1⟩ := mem_lookup (cloFrom_has (cells := X.env.cells) (acc := []) (PySem.mem_of_lookup hfr))
    have e2 : c1 = c := by
      rcases cloFrom_mem (PySem.mem_of_lookup h1) with hm | ⟨_, h2⟩
      · cases hm
      · rw [h2, e'] <;> rfl
    subst e2
    have hcl : h₁.IsCell c1 (some u) := by
      obtain ⟨o, ho, hd⟩ := hc
      exact ⟨o, kp _ _ ho, hd⟩
    exact pu_im (pu_free (env := lEnv X scope Lf f c') (v := u) L.kind hfr h1 hcl hy hy2) fun h v e => by
      obtain ⟨t, rfl⟩ := ru
      exact ⟨t, e⟩
end
end Lk

namespace Sm
open PySem L2 Lk
section
variable {K : PySem.W.Frag} {mg : Str → Option Value} {g g0 g1 g2 : G} {H H0 H1 H2 : Hp} {st st1 st2 : MS} {σ : L2.St} {W : WX}
theorem _root_.Lk.ExtT.ext (e : ExtT H H1) : Ext g H g H1 where
  rho := fun _ _ h => h
  s := fun _ h => h
  fr := fun a o h n _ _ => e.ne a o h n
  nn := fun a h => by
    cases q : H a with
    | none => rfl
    | some o =>
      by_cases z : ∃ ps, o = .tbl ps
      · obtain ⟨ps, rfl⟩ := z
        obtain ⟨ps', h'⟩ := e.tb a ps q
        rw [h'] at h; cases h
      · rw [e.ne a o q (fun ps hz => z ⟨ps, hz⟩)] at h; cases h
  rhoN := fun _ _ h => .inl h
  sN := fun _ h => .inl h
  oN := fun i _ h => .inl ⟨i, h⟩
theorem not_tbl {o : HO} {a : Addr} (h : H a = some o) (m : Mut (H a)) : ∀ ps, o ≠ .tbl ps := fun ps z => by rw [h, z] at m; exact m
theorem R.extT (r : R K g st σ H) (e : ExtT H H1) (tb : LamX.Tabs (tbl K) H1) : R K g st σ H1 where
  dom := r.dom
  ob := fun n o h => by
    obtain ⟨a, h1, h2⟩ := r.ob n o h
    obtain ⟨u, hu⟩ := h2.there
    exact ⟨a, h1, h2.imp (VR.ext r.wf e.ext) ((e.ne _ _ hu (not_tbl hu h2.mut)).trans hu.symm)⟩
  inj := r.inj
  sr := r.sr
  sa := fun a h z => r.sa a h ((e.ext (g := g)).nn a z)
  tb := tb
  len := r.len
  vl := fun i v h => let ⟨w, h1, h2⟩ := r.vl i v h; ⟨w, h1, VR.ext r.wf e.ext _ _ h2⟩
  ow := fun i vs h => let ⟨a, ws, h1, h2, h3, h4⟩ := r.ow i vs h; ⟨a, ws, h1, h2, e.ne _ _ h3 (fun _ z => nomatch z), VRs.ext r.wf e.ext _ _ h4⟩
  oi := r.oi
  oinj := r.oinj
end
/-! ### sorted of tuples of ints, by keys -/
def tupI : Val → List Int
  | .tup vs => (intsOf vs).getD []
  | _ => []
def tupN (n : Nat) : Val → Bool
  | .tup vs => (intsOf vs).isSome && decide (vs.length = n)
  | _ => false
def leK (kf : List Int → List Int) (a b : Val) : Bool := leL (kf (tupI a)) (kf (tupI b))
def mSortLam (kf : Int → List Int → List Int) (n : Nat) (pre : MS → Option Int) (m : M T) : M T := fun st => (m st).bind fun t st1 => match pre st1, view t st1 with
  | some z, some (.lst vs) => if vs.all (tupN n) = true then .ok (.own (vs.mergeSort (leK (kf z)))) st1 else .bad
  | _, _ => .bad
def preNo : MS → Option Int := fun _ => some 0
def preAt (i : Nat) : MS → Option Int := fun st => match st.sl[i]? with
  | some (.val (.int z)) => some z
  | _ => none
section
variable {K : PySem.W.Frag} {mg : Str → Option Value} {g g0 g1 g2 : G} {H H0 H1 H2 : Hp} {st st1 st2 : MS} {σ : L2.St} {W : WX}
theorem ints_of_some : ∀ {vs : List Val} {xs : List Int}, intsOf vs = some xs → vs = xs.map .int
  | [], xs, h => by cases h; rfl
  | v :: vs, xs, h => by
    cases v with
    | int i =>
      unfold intsOf at h
      rw [Option.map_eq_some_iff] at h
      obtain ⟨ys, h1, rfl⟩ := h
      rw [ints_of_some h1]; rfl
    | _ => cases h
theorem its_of {n : Nat} : ∀ {vs : List Val} {ws : List V}, VRs K g H vs ws → vs.all (tupN n) = true → ∃ its : List (Addr × List Int), ws = its.map (fun p => V.ref p.1) ∧ vs = its.map (fun p => .tup (p.2.map .int)) ∧ (∀ p ∈ its, H p.1 = some (.tup (p.2.map V.int)) ∧ p.2.length = n)
  | [], ws, h, _ => by unfold VRs at h; subst h; exact ⟨[], rfl, rfl, fun _ h => by cases h⟩
  | v :: vs, ws, h, e => by
    unfold VRs at h
    obtain ⟨w, r, rfl, h1, h2⟩ := h
    rw [List.all_cons, Bool.and_eq_true] at e
    obtain ⟨its, rfl, e2, h3⟩ := its_of h2 e.2
    cases v with
    | tup us =>
      have e1 := e.1
      unfold tupN at e1
      rw [Bool.and_eq_true, decide_eq_true_eq, Option.isSome_iff_exists] at e1
      obtain ⟨⟨xs, hx⟩, hl⟩ := e1
      unfold VR at h1
      obtain ⟨a, xs', rfl, k1, k2⟩ := h1
      have := intsOf_ok k2 hx
      subst this
      refine ⟨(a, xs) :: its, rfl, by rw [e2, ints_of_some hx]; rfl, fun p hp => ?_⟩
      rcases List.mem_cons.mp hp with rfl | hp
      · refine ⟨k1, ?_⟩
        have := ints_of_some hx
        rw [this, List.length_map] at hl
        exact hl
      · exact h3 p hp
    | _ => cases e.1
theorem intsOf_map : ∀ xs : List Int, intsOf (xs.map .int) = some xs
  | [] => rfl
  | x :: xs => by
    show (intsOf (xs.map .int)).map (x :: ·) = _
    rw [intsOf_map xs]; rfl
theorem tupI_map (xs : List Int) : tupI (.tup (xs.map .int)) = xs := by
  show (intsOf (xs.map .int)).getD [] = xs
  rw [intsOf_map]; rfl
theorem sort_its (kf : List Int → List Int) (its : List (Addr × List Int)) : (its.map fun p => Val.tup (p.2.map .int)).mergeSort (leK kf) = (its.mergeSort fun p q => leL (kf p.2) (kf q.2)).map fun p => Val.tup (p.2.map .int) := by
  refine (List.map_mergeSort (f := fun p : Addr × List Int => Val.tup (p.2.map .int)) (r := fun p q => leL (kf p.2) (kf q.2)) (s := leK kf) fun a _ b _ => ?_).symm
  unfold leK
  rw [tupI_map, tupI_map]
theorem vrs_its {its : List (Addr × List Int)} (h : ∀ p ∈ its, H p.1 = some (.tup (p.2.map V.int))) : VRs K g H (its.map fun p => .tup (p.2.map .int)) (its.map fun p => V.ref p.1) := by
  induction its with
  | nil => exact VRs.nil
  | cons p its ih =>
    refine VRs.cons ?_ (ih fun q hq => h q (List.mem_cons_of_mem _ hq))
    unfold VR
    exact ⟨p.1, _, rfl, h p (List.mem_cons_self ..), VRs.ints _⟩
end
section
variable {X : Cx} {W : WX} {e : Expr} {m : M T} {p pos : Pos} {x : Str} {params : Arguments} {body : Expr} {scope : Scope} {c P : Addr} {kws : List Keyword} {pre : L2.St → Int → Prop} {kf : Int → List Int → List Int} {kd : Int → List Int → PyData} {n k : Nat} {pm : MS → Option Int}
theorem s_sortLam (hg : Gl X "sorted") (hm : X.mg "sorted" = none) (he : SE X W e m) (TB : LamX.TabB X.base X.mg c P) (hcode : X.env.code = .ref c) (hmT : (P, X.env.qual ++ "<lambda>") ∈ tbl X.K) (hu : ∀ p ∈ tbl X.K, p.1 = P → p.2 = X.env.qual ++ "<lambda>")
    (hpre : ∀ (g : G) (st : MS) (σ : L2.St) (H : Hp) (z : Int), R X.K g st σ H → pm st = some z → pre σ z) (hdef : defaultsOf params X.env = ([], [])) (L : LamP X.env.scope scope x) (hB : KeyB X scope x body pre kd n)
    (hkd : ∀ z, (∀ xs : List Int, (kd z xs).depth = 1) ∧ (∀ xs ys : List Int, PySem.W.alike (kd z xs) (kd z ys) = true ∧ ∃ y r, kd z xs = .tuple (y :: r)) ∧ (∀ xs ys : List Int, (!PySem.W.dataLt (kd z ys) (kd z xs)) = leL (kf z xs) (kf z ys)))
    (hbind : ∀ (cl : List (Str × Addr)) (pm cv ctv v : Value), bindArgs (PySem.W.kla_fn "<lambda>" (X.env.qual ++ "<lambda>") params body scope cl pm cv ctv) ⟨[v], []⟩ = pure [(x, v)])
    (hr : Room k X.A) (hk : PK X kws (tCons (tLamE X (tbl X.K) params body scope) tNil))
    (hst : backTo pos (starEach [e] X.env) = (false, eval e X.env) :: backTo pos (starEach [] X.env) := by rfl) (hst2 : starEach [e] X.env = (false, eval e X.env) :: starEach [] X.env := by rfl) (hpl : (backTo pos (starEach [e] X.env)).any (·.1) = false := by rfl)
    (hall : (backToKw pos (keywordEach kws X.env)).all (·.1.isSome) = true := by rfl) (hnone : (backToKw pos (keywordEach kws X.env)).any (·.1.isNone) = false := by rfl) (hks : (backToKw pos (keywordEach kws X.env)).filterMap (·.1) = [Str.ofString "key"] := by rfl) :
    SE X W (.Call (.Name "sorted" p) [e] kws pos) (mSortLam kf n pm m) :=
  (pe_sortLam hg hm he TB hcode hmT hu hdef L hB hkd hbind hr hk hst hst2 hpl hall hnone hks).im fun σ H Q ⟨g, st, r, p⟩ => ⟨g, st, r, Pst.bind (RelA := TR X.K) Ext.refl p fun g2 w H2 t st2 e2 _ r2 q2 p2 => by
    refine ⟨r2.tb, fun f c' H3 e3 t3 n3 k3 => ?_⟩
    cases hz : pm st2 with
    | none => simp only [hz] at p2; exact p2.elim
    | some z =>
      cases hv : view t st2 with
      | none => simp only [hz, hv] at p2; exact p2.elim
      | some v =>
        cases v with
        | lst vs =>
          simp only [hz, hv] at p2
          split at p2
          · rename_i hall
            obtain ⟨a, ws, rfl, h1, h2⟩ := view_ok r2 q2 hv
            obtain ⟨its, rfl, rfl, hit⟩ := its_of h2 hall
            have hit3 : ∀ p ∈ its, H3 p.1 = some (.tup (p.2.map V.int)) := fun p hp => e3.ne _ _ (hit p hp).1 (fun _ z => nomatch z)
            refine ⟨a, its, z, rfl, hpre _ _ _ _ _ r2 hz, SqL.of (e3.ne _ _ h1 (fun _ z => nomatch z)), fun p hp => ⟨SqT.of (hit3 p hp), (hit p hp).2⟩, fun q hq => ?_⟩
            have r3 := r2.extT e3 t3
            have hqf : q ≠ f := fun z => by rw [z, upd_same] at hq; cases hq
            have hq3 : H3 q = none := by rw [upd_ne hqf] at hq; exact hq
            have d : Add H3 (upd (upd H3 f (LamO f (X.env.qual ++ "<lambda>") params body scope (cloFrom X.env.cells scope.names []) c')) q (.lst ((its.mergeSort fun p q => leL (kf z p.2) (kf z q.2)).map fun p => V.ref p.1))) :=
              (Add.upd n3).trans (Add.upd hq)
            have r4 := r3.add d
            refine p2 g2 _ _ ((e2.trans e3.ext).trans d.ext) r4 ⟨q, _, rfl, upd_same, ?_, fun z => r3.sa q z hq3, r3.wf.no_rho hq3, r3.wf.no_O hq3, .inl ((e2.trans e3.ext).nn q hq3)⟩
            rw [sort_its]
            refine vrs_its fun p hp => d _ _ (hit3 p ?_)
            exact (List.mergeSort_perm _ _).mem_iff.mp hp
          · exact p2.elim
        | _ => simp only [hz, hv] at p2; exact p2.elim⟩
theorem pre_no : ∀ (g : G) (st : MS) (σ : L2.St) (H : Hp) (z : Int), R X.K g st σ H → preNo st = some z → (fun (_ : L2.St) (_ : Int) => True) σ z := fun _ _ _ _ _ _ _ => True.intro
theorem pre_at (i : Nat) : ∀ (g : G) (st : MS) (σ : L2.St) (H : Hp) (z : Int), R X.K g st σ H → preAt i st = some z → (fun (σ : L2.St) (z : Int) => σ[i]? = some (some (.int z))) σ z := fun g st σ H z r h => by
  unfold preAt at h
  split at h
  · rename_i z' hz
    cases h
    obtain ⟨w, h1, h2⟩ := r.vl i _ hz
    unfold VR at h2
    rw [h2] at h1
    exact h1
  · cases h
end
end Sm
namespace Lk
open PySem PySem.Spec PySem.Calls PyProof.Rows L2 LamX
/-! ### sorted of tuples of ints -/
def rSortT (K : PySem.W.Frag) : List V → Hp → VK → Prop := fun xs H Q => ∃ (a : Addr) (its : List (Addr × List Int)) (n : Nat), xs = [.ref a] ∧ SqL K H a (its.map fun p => V.ref p.1) ∧ (∀ p ∈ its, SqT K H p.1 (p.2.map V.int) ∧ p.2.length = n + 1) ∧
  ∀ p, H p = none → Q (.ref p) (upd H p (.lst ((its.mergeSort fun p q => leL p.2 q.2).map fun p => V.ref p.1)))
theorem depth_ints : ∀ xs : List Int, PyData.depthAll (xs.map PyData.int) = 0
  | [] => rfl
  | x :: xs => by
    show PyData.depthAll (PyData.int x :: xs.map PyData.int) = 0
    simp [PyData.depthAll, PyData.depth, depth_ints xs]
theorem alike_ints : ∀ xs ys : List Int, xs.length = ys.length → PySem.W.alikeAll (xs.map PyData.int) (ys.map PyData.int) = true
  | [], [], _ => by simp [PySem.W.alikeAll]
  | x :: xs, y :: ys, h => by
    have := alike_ints xs ys (by simpa using h)
    simp [PySem.W.alikeAll, PySem.W.alike, this]
  | [], _ :: _, h => by simp at h
  | _ :: _, [], h => by simp at h
theorem reads_ints {h : Heap} {vs : List Value} {xs : List Int} (r : IntsAre vs xs) : ReadsAll h vs (xs.map PyData.int) [] := by
  induction r with
  | nil => exact .nil
  | cons n t _ ih => exact .cons (.int _ _) ih
theorem call_sortT {X : Cx} (hu : X.A.units + 3 < cLine) : CallR X (.builtin "sorted") (rSortT X.K) := by
  intro pins s σ H xs us Q I rx h
  obtain ⟨a, its, n, rfl, hsq, hit, q⟩ := h
  cases rx with | cons r rr => ?_
  cases rr
  cases r
  obtain ⟨us, rv, pl, hz⟩ := I.list hsq
  have hus : us = its.map fun p => Value.ref p.1 := by
    clear pl hz hsq hit q
    induction its generalizing us with
    | nil => cases rv; rfl
    | cons p its ih =>
      cases rv with
      | cons r rr =>
        cases r
        rw [ih _ rr]
        rfl
  have mk : ∀ R : Value → (Addr × List Int) → Prop, (∀ p ∈ its, R (.ref p.1) p) → PySem.W.EachIs R us its := fun R hR => by
    rw [hus]
    have : ∀ l : List (Addr × List Int), (∀ p ∈ l, p ∈ its) → PySem.W.EachIs R (l.map fun p => Value.ref p.1) l := fun l => by
      induction l with
      | nil => exact fun _ => .nil
      | cons p l ih => exact fun hl => .cons (hR p (hl p (List.mem_cons_self ..))) (ih fun p' hp' => hl p' (List.mem_cons_of_mem _ hp'))
    exact this its fun p hp => hp
  have hlen : its.length ≤ sizeLine := by rw [List.length_map] at hz; exact hz
  refine PySem.W.sorted_data (enc := fun p : Addr × List Int => PyData.tuple (p.2.map PyData.int)) (R := fun v p => v = .ref p.1) pl.isList (mk _ fun _ _ => rfl) (mk _ fun p hp => ?_) (fun d hd d' hd' => ?_) (.inl fun d hd => ?_) hlen (fun p hp => ?_) fun out hol eo => ?_
  · obtain ⟨its', rt, ht, hzt⟩ := I.tuple (hit p hp).1
    obtain ⟨o, z1, z2, nn, z3⟩ := ht
    exact ⟨[], .tuple z1 z2 z3 (reads_ints (by simpa using rt.ints))⟩
  · obtain ⟨p1, hp1, rfl⟩ := List.mem_map.mp hd
    obtain ⟨p2, hp2, rfl⟩ := List.mem_map.mp hd'
    show PySem.W.alike (.tuple _) (.tuple _) = true
    unfold PySem.W.alike
    exact alike_ints _ _ ((hit p1 hp1).2.trans (hit p2 hp2).2.symm)
  · obtain ⟨p1, hp1, rfl⟩ := List.mem_map.mp hd
    have := (hit p1 hp1).2
    cases e : p1.2 with
    | nil => rw [e] at this; simp at this
    | cons x r => exact ⟨_, _, rfl⟩
  · show X.A.units + 2 + (PyData.tuple (p.2.map PyData.int)).depth < cLine
    have : (PyData.tuple (p.2.map PyData.int)).depth = 1 := by simp [PyData.depth, depth_ints]
    omega
  · have key : out = (its.mergeSort fun p q => leL p.2 q.2).map fun p => Value.ref p.1 := by
      have : PySem.W.dataLe false (fun p : Addr × List Int => PyData.tuple (p.2.map PyData.int)) = fun p q => leL p.2 q.2 := by
        funext p q
        show (!PySem.W.dataLt (.tuple (q.2.map PyData.int)) (.tuple (p.2.map PyData.int))) = _
        rw [lt_toks, ← le_rows, ← tk_ints, ← tk_ints]
        rfl
      rw [this] at eo
      generalize its.mergeSort (fun p q => leL p.2 q.2) = l at eo
      clear hol
      induction eo with
      | nil => rfl
      | cons h _ ih => rw [h, ih]; rfl
    subst key
    have hl2 : ((its.mergeSort fun p q => leL p.2 q.2).map fun p => V.ref p.1).length ≤ sizeLine := by
      rw [List.length_map, List.length_mergeSort]; exact hlen
    have hvals : Vals ((its.mergeSort fun p q => leL p.2 q.2).map fun p => V.ref p.1) ((its.mergeSort fun p q => leL p.2 q.2).map fun p => Value.ref p.1) := by
      generalize its.mergeSort (fun p q => leL p.2 q.2) = l
      induction l with
      | nil => exact .nil
      | cons p l ih => exact .cons rfl ih
    have hf0 := I.hok.fresh (Nat.le_succ s.heap.objs.size)
    obtain ⟨ep, he'⟩ := PyProof.Rows.sortedAll_at s.heap us (List.toArray ((its.mergeSort fun p q => leL p.2 q.2).map fun p => Value.ref p.1))
    exact ⟨.ref (s.heap.objs.size + 1), _, I.laid (a := s.heap.objs.size + 1) (o := .lst ((its.mergeSort fun p q => leL p.2 q.2).map fun p => V.ref p.1)) (t' := s.toks) (fun _ _ => PyProof.Rows.sortedAll_old) (Nat.le_succ _) ⟨hl2, _, ep, hvals, by simpa using he'⟩, rfl, q _ hf0⟩
end Lk
namespace Sm
open PySem L2 Lk
def fSortT : List Val → Option T
  | [.lst vs] => match vs with
    | [] => some (.own [])
    | v :: _ => if 0 < (tupI v).length ∧ vs.all (tupN (tupI v).length) = true then some (.own (vs.mergeSort (leK id))) else none
  | _ => none
theorem p_sortT {K : PySem.W.Frag} : PC K (rSortT K) fSortT := by
  intro g H us ws t Q wf h e q
  unfold fSortT at e
  split at e
  · rename_i vs
    cases h with | cons h1 h2 => ?_
    cases h2
    obtain ⟨a, xs, rfl, k1, k2⟩ := vw_lst h1
    have main : ∀ n, vs.all (tupN (n + 1)) = true → t = .own (vs.mergeSort (leK id)) → rSortT K [.ref a] H Q := fun n hall et => by
      obtain ⟨its, rfl, rfl, hit⟩ := its_of k2 hall
      refine ⟨a, its, n, rfl, SqL.of k1, fun p hp => ⟨SqT.of (hit p hp).1, (hit p hp).2⟩, fun p hp => ?_⟩
      have d : Add H (upd H p (.lst ((its.mergeSort fun p q => leL p.2 q.2).map fun p => V.ref p.1))) := Add.upd hp
      refine q _ _ d ?_
      rw [et, sort_its]
      exact ⟨p, _, rfl, hp, upd_same, vrs_its fun p hp => d _ _ (hit p ((List.mergeSort_perm _ _).mem_iff.mp hp)).1⟩
    split at e
    · cases e
      exact main 0 rfl (by rw [List.mergeSort_nil])
    · rename_i v r
      split at e
      · rename_i hc
        cases e
        obtain ⟨n, hn⟩ : ∃ n, (tupI v).length = n + 1 := ⟨(tupI v).length - 1, by omega⟩
        exact main n (by rw [← hn]; exact hc.2) rfl
      · cases e
  · cases e
theorem hu3_of {k : Nat} {A : Around} (r : Room k A) : A.units + 3 < cLine := by have := r.un; omega
end Sm

namespace Sm
open PySem L2 Lk
/-! ### defs that hold lambdas; methods -/
def TBs (K : PySem.W.Frag) (mg : Str → Option Value) (base : Heap) : Prop := ∀ x ∈ lamDefs, lamGd K x = true → LamX.TabB base mg (He.cT K (x, none)).1 (He.cT K (x, none)).2
theorem tbl_mem {K : PySem.W.Frag} {x : Str} (h : x ∈ lamDefs) (g : lamGd K x = true) : ((He.cT K (x, none)).2, x ++ ".<locals>." ++ "<lambda>") ∈ tbl K := List.mem_map.mpr ⟨x, List.mem_filter.mpr ⟨h, g⟩, rfl⟩
theorem nodup_fst {α β : Type} : ∀ {l : List (α × β)} {p q : α × β}, (l.map (·.1)).Nodup → p ∈ l → q ∈ l → p.1 = q.1 → p = q
  | [], _, _, _, h, _, _ => by cases h
  | x :: l, p, q, hn, hp, hq, e => by
    rw [List.map_cons, List.nodup_cons] at hn
    rcases List.mem_cons.mp hp with h1 | h1
    · rcases List.mem_cons.mp hq with h2 | h2
      · rw [h1, h2]
      · exact absurd (List.mem_map.mpr ⟨q, h2, by rw [← e, h1]⟩) hn.1
    · rcases List.mem_cons.mp hq with h2 | h2
      · exact absurd (List.mem_map.mpr ⟨p, h1, by rw [e, h2]⟩) hn.1
      · exact nodup_fst hn.2 h1 h2 e
theorem tbl_uniq {K : PySem.W.Frag} {x : Str} (tu : ((tbl K).map (·.1)).Nodup) (h : x ∈ lamDefs) (g : lamGd K x = true) : ∀ p ∈ tbl K, p.1 = (He.cT K (x, none)).2 → p.2 = x ++ ".<locals>." ++ "<lambda>" := fun p hp e => by
  have := nodup_fst tu hp (tbl_mem h g) e
  rw [this]
section
variable {P : Program} {w : World} {K : PySem.W.Frag} {mg : Str → Option Value} {base : Heap} {x qual C mn : Str} {params : Arguments} {body : List Stmt} {scope : Scope} {dvs : List V} {kws : List (Str × V)} {f : Addr} {fd : FuncData}
theorem FunD.code (F : FunD K x qual params body scope dvs kws (He.ga K x) fd) : fd.code = .ref (He.codeOf K (x, none)) := by
  obtain ⟨oc, od, dV, kV, doc, pm, an, cdv, ct, osl, rfl, lk, hcd, _, _⟩ := F.ex
  obtain ⟨c, rfl⟩ := He.codeIn_ref hcd
  rw [He.codeOf_eq (p := (x, none)) lk rfl]
theorem DOk.mkC {N ps : List Str} {k n : Nat} {m : M Fl} (F : ∃ fd, mg x = some (.ref (He.ga K x)) ∧ FunD K x qual params body scope dvs kws (He.ga K x) fd) (S : FnScope N ps scope) (hbd : ∀ {f fd}, FunD K x qual params body scope dvs kws f fd → Binds K fd ps [])
    (hb : ∀ (cdv : Value) (A : Around) (outer : List Env) (s : Shared) (H : Hp) (E : XK) {f : Addr}, cdv = .ref (He.codeOf K (x, none)) → Room k (A.deeper (PyProof.Rows.envOfC qual scope s.heap.objs.size f cdv)) →
      Takes (cxOf (L2.CX P w) P w K mg base N qual scope f cdv A outer s H E) (fun cls d _ H => E cls d H) →
      SSs (cxOf (L2.CX P w) P w K mg base N qual scope f cdv A outer s H E) (fun cls d _ H => E cls d H) body m) (hn : ps.length = n := by rfl) : DOk P w K mg base (k + 1) x n ps (mBody N.length m) := by
  subst hn
  obtain ⟨fd, hm, F⟩ := F
  have hc := FunD.code F
  refine ⟨_, fd, hm, ?_, F.kp, hbd F⟩
  obtain ⟨oc, od, dV, kV, doc, pm, an, cdv, ct, osl, rfl, lk, hcd, _, _⟩ := F.ex
  exact fn_of lk hcd S (fun vs H Q E h => spM.len h) fun A outer s H vs Q E hr h => ⟨_, hb cdv A outer s H E hc hr (takes_of rfl rfl rfl rfl), body_ok h⟩
theorem MOk.mk2 {N ps : List Str} {k n : Nat} {m : M Fl} (hm : Meth K (He.ga K C) mn f) (F : ∃ fd, FunD K x qual params body scope dvs kws f fd) (S : FnScope N ps scope) (hbd : ∀ {f fd}, FunD K x qual params body scope dvs kws f fd → Binds K fd ps [])
    (hb : ∀ (cdv : Value) (A : Around) (outer : List Env) (s : Shared) (H : Hp) (E : XK) {f : Addr}, Room k (A.deeper (PyProof.Rows.envOfC qual scope s.heap.objs.size f cdv)) →
      Takes (cxOf (L2.CX P w) P w K mg base N qual scope f cdv A outer s H E) (fun cls d _ H => E cls d H) →
      SSs (cxOf (L2.CX P w) P w K mg base N qual scope f cdv A outer s H E) (fun cls d _ H => E cls d H) body m) (hn : ps.length = n := by rfl) : MOk P w K mg base (k + 1) C mn n ps (mBody N.length m) := by
  subst hn
  obtain ⟨fd, F⟩ := F
  exact ⟨f, fd, hm, def_ok F S fun cdv A outer s H E hr tk => hb cdv A outer s H E hr tk, hbd F⟩
theorem KOk.mk2 {N ps : List Str} {k n : Nat} {m : M Fl} (hg : mg C = some (.ref (He.ga K C))) (hm : Mk K (He.ga K C) f) (F : ∃ fd, FunD K x qual params body scope dvs kws f fd) (S : FnScope N ps scope) (hbd : ∀ {f fd}, FunD K x qual params body scope dvs kws f fd → Binds K fd ps [])
    (hb : ∀ (cdv : Value) (A : Around) (outer : List Env) (s : Shared) (H : Hp) (E : XK) {f : Addr}, Room k (A.deeper (PyProof.Rows.envOfC qual scope s.heap.objs.size f cdv)) →
      Takes (cxOf (L2.CX P w) P w K mg base N qual scope f cdv A outer s H E) (fun cls d _ H => E cls d H) →
      SSs (cxOf (L2.CX P w) P w K mg base N qual scope f cdv A outer s H E) (fun cls d _ H => E cls d H) body m) (hn : ps.length = n := by rfl) : KOk P w K mg base (k + 1) C n ps (mBody N.length m) := by
  subst hn
  obtain ⟨fd, F⟩ := F
  exact ⟨f, fd, hg, hm, def_ok F S fun cdv A outer s H E hr tk => hb cdv A outer s H E hr tk, hbd F⟩
end
/-! ### a written tuple of texts -/
def tupB (K : PySem.W.Frag) (x : Str) (zs : List Str) : Bool := match PySem.W.nsIn K PySem.mainGlobals x with
  | some (some (.ref a)) => (match K.lookup a with
    | some ⟨.type c, _, .seq its _, _⟩ => decide (c = "tuple") && decide (its.toList.map (fun v => match v with
      | .str z _ => some z
      | _ => none) = zs.map some)
    | _ => false)
  | _ => false
theorem vals_strs : ∀ {us : List Value} {zs : List Str}, us.map (fun v => match v with
      | .str z _ => some z
      | _ => none) = zs.map some → Vals (zs.map V.str) us
  | [], [], _ => .nil
  | [], _ :: _, h => by simp at h
  | _ :: _, [], h => by simp at h
  | u :: us, z :: zs, h => by
    rw [List.map_cons, List.map_cons] at h
    injection h with h1 h2
    refine .cons ?_ (vals_strs h2)
    cases u with
    | str y t => cases h1; exact ⟨t, rfl⟩
    | _ => cases h1
theorem tup_fact {K : PySem.W.Frag} {h : Heap} {mg : Str → Option Value} {x : Str} {zs : List Str} (X : K.In h) (G : h.Ns PySem.mainGlobals mg) (hz : zs.length ≤ 1000) (e : tupB K x zs = true) : ∃ a, mg x = some (.ref a) ∧ SqTK K a (zs.map V.str) := by
  unfold tupB at e
  split at e
  · rename_i a hn
    refine ⟨a, PySem.W.mg_of X G hn, ?_⟩
    split at e
    · rename_i c od its n sl hl
      rw [Bool.and_eq_true, decide_eq_true_eq, decide_eq_true_eq] at e
      have r := vals_strs e.2
      refine ⟨_, its, n, hl, by rw [e.1], rfl, ?_, r⟩
      have := r.length
      rw [List.length_map] at this
      have h2 : its.size = its.toList.length := by simp
      rw [h2, ← this, sizeLine_eq]; omega
    · cases e
  · cases e
theorem s_gtup {X : Cx} {W : WX} {x : Str} {zs : List Str} {pos : Pos} (hg : Gl X x) (hm : ∃ a, X.mg x = some (.ref a) ∧ SqTK X.K a (zs.map V.str)) (hd : (x == ("__debug__" : Str)) = false := by decide) : SE X W (.Name x pos) (mC (.ktup (zs.map .str))) := by
  obtain ⟨a, hm, hs⟩ := hm
  refine s_glob (w := .ref a) hg hm rfl (fun g H => ?_) hd
  unfold VR
  exact ⟨a, _, rfl, hs, vrs_strs _⟩
end Sm

namespace Sm
open PySem L2
/-! ### int of a truth value -/
def fIntB : List Val → Option T
  | [.bl b] => vI (if b = true then 1 else 0)
  | [.int i] => vI i
  | _ => none
theorem p_int1 {K : PySem.W.Frag} : PC K (fun xs H Q => (∃ i, xs = [.int i] ∧ Q (.int i) H) ∨ ∃ k, xs = [.bl k] ∧ Q (.int (if k then 1 else 0)) H) fIntB := by
  intro g H vs ws t Q wf h e q
  unfold fIntB at e
  split at e
  · cases e
    cases h with | cons h1 h2 => ?_
    cases h2
    exact .inr ⟨_, by rw [vw_bl h1], q _ _ .refl rr_int⟩
  · cases e
    cases h with | cons h1 h2 => ?_
    cases h2
    exact .inl ⟨_, by rw [vw_int h1], q _ _ .refl rr_int⟩
  · cases e
/-! ### range of two -/
section
variable {X : Cx} {W : WX} {tg e e' : Expr} {m m' : M T} {pos p : Pos}
def mRng2 (ma mb : M T) : M (List Val) := fun st => (ma st).bind fun t st1 => (mb st1).bind fun u st2 => (asI (view t st2) st2).bind fun i st3 => (asI (view u st3) st3).bind fun j st4 =>
  if (-(2 ^ 62) ≤ i ∧ i < 2 ^ 62) ∧ (-(2 ^ 62) ≤ j ∧ j < 2 ^ 62) then .ok (intR i (j - i).toNat) st4 else .bad
theorem i_rng2 (hg : Gl X "range") (hm : X.mg "range" = none) (ha : SE X W e m) (hb : SE X W e' m') (hs : starEach [e, e'] X.env = [(false, eval e X.env), (false, eval e' X.env)] := by rfl) (hs2 : starEach [e'] X.env = [(false, eval e' X.env)] := by rfl)
    (hst : starEach (e :: [e']) X.env = (false, eval e X.env) :: starEach [e'] X.env := by rfl) (hst2 : starEach (e' :: []) X.env = (false, eval e' X.env) :: starEach [] X.env := by rfl) : SI X W tg (.Call (.Name "range" p) [e, e'] [] pos) (mRng2 m m') :=
  ⟨(pi_range2 hg hm (pa_cons ha (pa_cons hb pa_nil hst2) hst) hs hs2).im fun σ H Rr ⟨g, st, r, p⟩ => ⟨g, st, r, PstI.bind (RelA := TR X.K) Ext.refl p fun g2 w H2 t st2 e2 _ r2 q2 p2 => ⟨g2, st2, r2, PstI.bind (RelA := TR X.K) e2 p2 fun g3 w3 H3 t3 st3 e3 e3' r3 q3 p3 => by
    have q2' := TR.rel.ext r2.wf e3' q2
    rcases asI_ok r3 q2' with ⟨i, hi, rfl⟩ | hi
    case inr => rw [hi] at p3; exact p3.elim
    rcases asI_ok r3 q3 with ⟨j, hj, rfl⟩ | hj
    case inr => rw [hi] at p3; simp only [Out.bind, hj] at p3
    rw [hi] at p3
    simp only [Out.bind, hj] at p3
    by_cases hb : (-(2 ^ 62) ≤ i ∧ i < 2 ^ 62) ∧ (-(2 ^ 62) ≤ j ∧ j < 2 ^ 62)
    · simp only [if_pos hb] at p3
      exact ⟨i, j, rfl, ⟨hb.1.1, hb.1.2, hb.2.1, hb.2.2⟩, p3 g3 H3 _ e3 r3 .rng⟩
    · simp only [if_neg hb] at p3⟩⟩⟩
end
/-! ### x, y, z = a, b, c -/
def mPar3 (i j l : Nat) (ma mb mc : M T) : M Fl := fun st => (ma st).bind fun t1 st1 => (mb st1).bind fun t2 st2 => (mc st2).bind fun t3 st3 => match t1, t2, t3 with
  | .loc _, _, _ => .bad
  | _, .loc _, _ => .bad
  | _, _, .loc _ => .bad
  | t1, t2, t3 => okU ((mGN i t1 st3).bind fun _ st4 => (mGN j t2 st4).bind fun _ st5 => mGN l t3 st5)
def Ow (t : T) (w : V) (a : Addr) : Prop := (∃ vs, t = .own vs) ∧ w = .ref a
section
variable {K : PySem.W.Frag} {mg : Str → Option Value} {W : WX} {g g0 g1 g' : G} {H H0 H1 H' : Hp} {σ σ' : L2.St} {st1 st2 : MS}
theorem ow_ne {t t' : T} {w w' : V} (q : TR K g0 H0 g H σ t w) (q' : TR K g H g' H' σ' t' w') (a : Addr) (h : Ow t w a) (h' : Ow t' w' a) : False := by
  obtain ⟨⟨vs, rfl⟩, rfl⟩ := h
  obtain ⟨⟨us, rfl⟩, rfl⟩ := h'
  obtain ⟨a1, ws, e1, f2, f3, f4, f5, f6, f7⟩ := q
  obtain ⟨a2, xs, e2, k2, k3, k4, k5, k6, k7⟩ := q'
  cases e1
  cases e2
  rcases k7 with k7 | ⟨i, k7⟩
  · rw [f2] at k7; cases k7
  · exact f6 i k7
theorem gn_step {t : T} {w : V} {u : Unit} {i : Nat} (e : Ext g H g1 H1) (r : R K g1 st1 σ H1) (q : TR K g H g1 H1 σ t w) (hl : ∀ j, t ≠ .loc j) (h : mGN i t st1 = .ok u st2) :
    ∃ O, Ext g H { g1 with O := O } H1 ∧ R K { g1 with O := O } st2 (σ.set i (some w)) H1 ∧ ∀ {t' : T} {w' : V}, (∀ j, t' ≠ .loc j) → TR K g H g1 H1 σ t' w' → (∀ a, Ow t w a → Ow t' w' a → False) → TR K g H { g1 with O := O } H1 (σ.set i (some w)) t' w' := by
  obtain ⟨O, e1, r1, hO⟩ := gn_inv (mg := fun _ => none) e r q hl h
  refine ⟨O, e1, r1, fun {t' w'} hl' q' hd => ?_⟩
  cases t' with
  | loc k => exact (hl' k rfl).elim
  | val v => exact VR.O O (show VR K g1 H1 v w' from q')
  | own vs =>
    obtain ⟨a3, ws, f1, f2, f3, f4, f5, f6, f7⟩ := q'
    refine ⟨a3, ws, f1, f2, f3.O O, f4, f5, fun k z => ?_, f7⟩
    rcases hO k a3 z with z | ⟨hu, z⟩
    · exact f6 k z
    · exact hd a3 ⟨hu, z⟩ ⟨⟨vs, rfl⟩, f1⟩
end
section
variable {X : Cx} {W : WX} {a b c : Expr} {ma mb mc : M T} {pos : Pos}
theorem k_par3 {i j l : Nat} {x y z : Str} {px py pz pt : Pos} {kt k2 pt2} (hc : X.calm = true) (hN : X.N.Nodup) (ha : SE X W a ma) (hb : SE X W b mb) (hcc : SE X W c mc) (hi : X.N[i]? = some x := by rfl) (hj : X.N[j]? = some y := by rfl) (hl : X.N[l]? = some z := by rfl) (hij : i ≠ j := by decide) (hil : i ≠ l := by decide) (hjl : j ≠ l := by decide)
    (hx : X.env.scope.names.lookup x = some .local := by rfl) (hy : X.env.scope.names.lookup y = some .local := by rfl) (hz : X.env.scope.names.lookup z = some .local := by rfl)
    (hw : swappedStores [.Tuple [.Name x px, .Name y py, .Name z pz] kt pt] (.Tuple [a, b, c] k2 pt2) X.env = pure (some [x, y, z]) := by rfl) (hs : swapsWithSole [.Tuple [.Name x px, .Name y py, .Name z pz] kt pt] (.Tuple [a, b, c] k2 pt2) pos.line X.env = pure false := by rfl)
    (hst : starEach [a, b, c] X.env = (false, eval a X.env) :: starEach [b, c] X.env := by rfl) (hst2 : starEach [b, c] X.env = (false, eval b X.env) :: starEach [c] X.env := by rfl) (hst3 : starEach [c] X.env = (false, eval c X.env) :: starEach [] X.env := by rfl) :
    SS X W (.Assign [.Tuple [.Name x px, .Name y py, .Name z pz] kt pt] (.Tuple [a, b, c] k2 pt2) pos) (mPar3 i j l ma mb mc) :=
  (ps_par3 hc hN hi hj hl hij hil hjl hx hy hz (pa_cons ha (pa_cons hb (pa_cons hcc pa_nil hst3) hst2) hst) hw hs).im fun D σ H ⟨g, st, r, p⟩ =>
    ⟨g, st, r, SPst.bind Ext.refl p fun g2 w H2 t st2 e2 _ r2 q2 p2 => ⟨g2, st2, r2, SPst.bind e2 p2 fun g3 w3 H3 t3 st3 e3 e3' r3 q3 p3 => ⟨g3, st3, r3, SPst.bind e3 p3 fun g4 w4 H4 t4 st4 e4 e4' r4 q4 p4 => by
      have key : (∀ j, t ≠ .loc j) → (∀ j, t3 ≠ .loc j) → (∀ j, t4 ≠ .loc j) → SPst X.K X.mg W g H (okU ((mGN i t st4).bind fun _ st5 => (mGN j t3 st5).bind fun _ st6 => mGN l t4 st6)) D → ∃ u v v' : V, [w, w3, w4] = [u, v, v'] ∧ D.nx (((σ.set i (some u)).set j (some v)).set l (some v')) H4 := fun n1 n2 n3 p5 => by
        refine ⟨w, w3, w4, rfl, ?_⟩
        have q23 := TR.rel.ext r2.wf e3' q2
        have q24 := TR.rel.ext r3.wf e4' q23
        have q34 := TR.rel.ext r3.wf e4' q3
        have d13 := ow_ne q2 q3
        have d14 := ow_ne q23 q4
        have d34 := ow_ne q3 q4
        have q24 := TR.rel.sh Ext.refl q24
        have q34 := TR.rel.sh e2 q34
        have q44 := TR.rel.sh e3 q4
        cases h : mGN i t st4 with
        | bad => rw [h] at p5; exact p5.elim
        | exc x s => exact (gn_noexc n1 h).elim
        | ok u s =>
          rw [h] at p5
          obtain ⟨O, e5, r5, hO⟩ := gn_step e4 r4 q24 n1 h
          have q35 := hO n2 q34 d13
          have q45 := hO n3 q44 d14
          cases h2 : mGN j t3 s with
          | bad => rw [show (Out.ok u s).bind (fun _ st5 => (mGN j t3 st5).bind fun _ st6 => mGN l t4 st6) = (mGN j t3 s).bind fun _ st6 => mGN l t4 st6 from rfl, h2] at p5; exact p5.elim
          | exc x s => exact (gn_noexc n2 h2).elim
          | ok u2 s2 =>
            rw [show (Out.ok u s).bind (fun _ st5 => (mGN j t3 st5).bind fun _ st6 => mGN l t4 st6) = (mGN j t3 s).bind fun _ st6 => mGN l t4 st6 from rfl, h2] at p5
            obtain ⟨O2, e6, r6, hO2⟩ := gn_step e5 r5 q35 n2 h2
            have q46 := hO2 n3 q45 d34
            exact gn_ok (F := fAll) (mg := X.mg) (W := W) rfl e6 r6 q46 (SPst.gp p5)
      cases t with
      | loc k => exact p4.elim
      | val v => cases t3 with
        | loc k => exact p4.elim
        | val v3 => cases t4 with
          | loc k => exact p4.elim
          | val v4 => exact key (fun _ z => by cases z) (fun _ z => by cases z) (fun _ z => by cases z) p4
          | own v4 => exact key (fun _ z => by cases z) (fun _ z => by cases z) (fun _ z => by cases z) p4
        | own v3 => cases t4 with
          | loc k => exact p4.elim
          | val v4 => exact key (fun _ z => by cases z) (fun _ z => by cases z) (fun _ z => by cases z) p4
          | own v4 => exact key (fun _ z => by cases z) (fun _ z => by cases z) (fun _ z => by cases z) p4
      | own v => cases t3 with
        | loc k => exact p4.elim
        | val v3 => cases t4 with
          | loc k => exact p4.elim
          | val v4 => exact key (fun _ z => by cases z) (fun _ z => by cases z) (fun _ z => by cases z) p4
          | own v4 => exact key (fun _ z => by cases z) (fun _ z => by cases z) (fun _ z => by cases z) p4
        | own v3 => cases t4 with
          | loc k => exact p4.elim
          | val v4 => exact key (fun _ z => by cases z) (fun _ z => by cases z) (fun _ z => by cases z) p4
          | own v4 => exact key (fun _ z => by cases z) (fun _ z => by cases z) (fun _ z => by cases z) p4⟩⟩⟩
end
end Sm

namespace Sm
open PySem L2
/-! ### dicts whose keys are ints and texts -/
def keyK : Val → Option Key
  | .int i => some (.inl i)
  | .str x => some (.inr x)
  | _ => none
def lookK (kvs : List (Key × Val)) (k : Key) : Option Val := (kvs.find? fun p => decide (p.1 = k)).map (·.2)
def putKk (kvs : List (Key × Val)) (k : Key) (v : Val) : List (Key × Val) :=
  if (kvs.any fun p => decide (p.1 = k)) = true then kvs.map (fun p => if p.1 = k then (p.1, v) else p) else kvs ++ [(k, v)]
section
variable {K : PySem.W.Frag} {g : G} {H : Hp}
abbrev DKs (K : PySem.W.Frag) (g : G) (H : Hp) (kvs : List (Key × Val)) (kk : List (Key × V)) : Prop := Paired (fun (p : Key × Val) (q : Key × V) => p.1 = q.1 ∧ VR K g H p.2 q.2) kvs kk
theorem DKs.look : ∀ {kvs : List (Key × Val)} {kk : List (Key × V)} (k : Key), DKs K g H kvs kk → (∃ v w, lookK kvs k = some v ∧ valV kk k = some w ∧ VR K g H v w) ∨ (lookK kvs k = none ∧ valV kk k = none)
  | _, _, k, .nil => .inr ⟨rfl, rfl⟩
  | p :: kvs, q :: kk, k, .cons h t => by
    by_cases e : q.1 = k
    · refine .inl ⟨p.2, q.2, ?_, valV_pos e, h.2⟩
      have : p.1 = k := h.1.trans e
      simp [lookK, List.find?_cons, this]
    · have : ¬ p.1 = k := fun z => e (h.1.symm.trans z)
      have e2 : lookK (p :: kvs) k = lookK kvs k := by simp [lookK, List.find?_cons, this]
      rw [e2, valV_neg e]
      exact DKs.look k t
theorem DKs.length {kvs : List (Key × Val)} {kk : List (Key × V)} (h : DKs K g H kvs kk) : kvs.length = kk.length := Paired.length h
theorem DKs.any : ∀ {kvs : List (Key × Val)} {kk : List (Key × V)} (k : Key), DKs K g H kvs kk → (kvs.any fun p => decide (p.1 = k)) = kk.any fun kv => decide (kv.1 = k)
  | _, _, k, .nil => rfl
  | p :: kvs, q :: kk, k, .cons h t => by
    rw [List.any_cons, List.any_cons, DKs.any k t, h.1]
theorem DKs.app : ∀ {kvs : List (Key × Val)} {kk : List (Key × V)} {p : Key × Val} {q : Key × V}, DKs K g H kvs kk → (p.1 = q.1 ∧ VR K g H p.2 q.2) → DKs K g H (kvs ++ [p]) (kk ++ [q])
  | _, _, _, _, .nil, h => .cons h .nil
  | _, _, _, _, .cons r t, h => .cons r (DKs.app t h)
theorem DKs.repl {v : Val} {w : V} (hv : VR K g H v w) : ∀ {kvs : List (Key × Val)} {kk : List (Key × V)} (k : Key), DKs K g H kvs kk → DKs K g H (kvs.map fun p => if p.1 = k then (p.1, v) else p) (kk.map fun kv => if kv.1 = k then (kv.1, w) else kv)
  | _, _, k, .nil => .nil
  | p :: kvs, q :: kk, k, .cons h t => by
    rw [List.map_cons, List.map_cons]
    refine .cons ?_ (DKs.repl hv k t)
    by_cases e : q.1 = k
    · rw [if_pos e, if_pos (h.1.trans e)]; exact ⟨h.1, hv⟩
    · rw [if_neg e, if_neg (fun z => e (h.1.symm.trans z))]; exact h
theorem DKs.put {v : Val} {w : V} (hv : VR K g H v w) {kvs : List (Key × Val)} {kk : List (Key × V)} (k : Key) (h : DKs K g H kvs kk) : DKs K g H (putKk kvs k v) (putK kk k w) := by
  unfold putKk putK
  rw [DKs.any k h]
  split
  · exact DKs.repl hv k h
  · exact DKs.app h ⟨rfl, hv⟩
theorem keyK_ok {v : Val} {w : V} {k : Key} (h : Vw K g H v w) (e : keyK v = some k) : w = kV k := by
  cases v with
  | int i => cases e; unfold Vw VR at h; exact h
  | str i => cases e; unfold Vw VR at h; exact h
  | _ => cases e
end
/-- the dict's place -/
def dkAt (o : T) (st : MS) : Option (Nat × List (Key × Val)) := match o with
  | .val (.ref n) => match st.hp[n]? with
    | some (.dk kvs) => some (n, kvs)
    | _ => none
  | _ => none
def mKNew : M T := fun st => .ok (.val (.ref st.hp.length)) { st with hp := st.hp ++ [.dk []] }
def kGetT (to tk : T) : M T := fun st => match dkAt to st with
  | some (_, kvs) => match (view tk st).bind keyK with
    | some k => match lookK kvs k with
      | some v => .ok (.val v) st
      | none => .bad
    | none => .bad
  | none => .bad
def mKGet (mo mi : M T) : M T := fun st => (mo st).bind fun o st1 => (mi st1).bind fun i st2 => kGetT o i st2
def kHasT (neg : Bool) (to tk : T) : M T := fun st => match dkAt to st with
  | some (_, kvs) => match (view tk st).bind keyK with
    | some k => .ok (.val (.bl (if neg then !(lookK kvs k).isSome else (lookK kvs k).isSome))) st
    | none => .bad
  | none => .bad
def mKIn (neg : Bool) (mi mo : M T) : M T := fun st => (mi st).bind fun i st1 => (mo st1).bind fun o st2 => kHasT neg o i st2
def kPutT (to tk : T) (v : Val) : M Fl := fun st => match dkAt to st with
  | some (n, kvs) => match (view tk st).bind keyK with
    | some k => if kvs.length < 16777216 then .ok .nx { st with hp := st.hp.set n (.dk (putKk kvs k v)) } else .bad
    | none => .bad
  | none => .bad
def mKPut (mv mo mi : M T) : M Fl := fun st => (mv st).bind fun t st1 => (mTake t st1).bind fun v st1' => (mo st1').bind fun o st2 => (mi st2).bind fun i st3 => kPutT o i v st3
section
variable {X : Cx} {W : WX} {o i e value : Expr} {pos pos' : Pos} {mo mi mv : M T}
theorem dk_ok {K : PySem.W.Frag} {g0 g1 : G} {H0 H1 : Hp} {σ : L2.St} {st1 : MS} {t : T} {w : V} {n : Nat} {kvs : List (Key × Val)} (r : R K g1 st1 σ H1) (q : TR K g0 H0 g1 H1 σ t w) (e : dkAt t st1 = some (n, kvs)) :
    ∃ a kk, w = .ref a ∧ g1.rho n = some a ∧ H1 a = some (.dK kk) ∧ DKs K g1 H1 kvs kk := by
  cases t with
  | own _ => cases e
  | loc _ => cases e
  | val v =>
    cases v with
    | ref m =>
      simp only [dkAt] at e
      split at e
      · rename_i kv ek
        cases e
        obtain ⟨a, h1, kk, h2, h3⟩ := r.ob _ _ ek
        have q : VR K g1 H1 (.ref n) w := q
        unfold VR at q
        obtain ⟨a', k1, rfl⟩ := q
        rw [h1] at k1; cases k1
        exact ⟨a, kk, rfl, h1, h2, h3⟩
      · cases e
    | _ => cases e
theorem s_knew : SE X W (.Dict [] [] pos) mKNew := pe_dnewK.im fun σ H Q ⟨g, st, r, p⟩ a ha => by
  have d : Add H (upd H a (.dK [])) := Add.upd ha
  have wf := r.wf
  have r2 := r.add d
  have r3 := r2.place (a := a) (o := .dk []) (fun z => r.sa a z ha) (wf.no_rho ha) (wf.no_O ha) ⟨[], upd_same, .nil⟩
  refine p _ _ _ (d.ext.place (fun b z => absurd (r.dom _ _ z) (Nat.lt_irrefl _)) (.inl ha)) r3 ?_
  show VR _ _ _ _ _
  unfold VR
  exact ⟨a, by show (if _ = _ then _ else _) = _; rw [if_pos rfl], rfl⟩
theorem view_keyK {K : PySem.W.Frag} {g0 g1 : G} {H0 H1 : Hp} {σ : L2.St} {st1 : MS} {t : T} {w : V} {k : Key} (r : R K g1 st1 σ H1) (q : TR K g0 H0 g1 H1 σ t w) (e : (view t st1).bind keyK = some k) : w = kV k := by
  rw [Option.bind_eq_some_iff] at e
  obtain ⟨v, e1, e2⟩ := e
  exact keyK_ok (view_ok r q e1) e2
theorem s_kget (hu : X.A.units + 1 < cLine) (ho : SE X W o mo) (hi : SE X W i mi) (hs : NoSl i := by intro _ _; rfl) : SE X W (.Subscript o i pos) (mKGet mo mi) := (pe_dget hu ho hi hs).im fun σ H Q ⟨g, st, r, p⟩ =>
  ⟨g, st, r, Pst.bind Ext.refl p fun g2 w H2 t st2 e2 _ r2 q2 p2 => ⟨g2, st2, r2, Pst.bind e2 p2 fun g3 w3 H3 t3 st3 e3 e3' r3 q3 p3 => by
    unfold kGetT at p3
    split at p3
    · rename_i n kvs ed
      split at p3
      · rename_i k ek
        split at p3
        · rename_i v ev
          obtain ⟨a, kk, rfl, h1, h2, h3⟩ := dk_ok r3 (TR.rel.ext r2.wf e3' q2) ed
          have hb := view_keyK r3 q3 ek
          subst hb
          rcases h3.look k with ⟨v', w', l1, l2, l3⟩ | ⟨l1, l2⟩
          · rw [ev] at l1; cases l1
            exact ⟨a, w', rfl, l2 ▸ DGet.k h2, p3 g3 w' H3 e3 r3 l3⟩
          · rw [ev] at l1; cases l1
        · exact p3.elim
      · exact p3.elim
    · exact p3.elim⟩⟩
theorem kHas_ok {neg : Bool} {K : PySem.W.Frag} {mg : Str → Option Value} {g g1 : G} {H H1 : Hp} {g0 g9 : G} {H0 H9 : Hp} {σ : L2.St} {st1 : MS} {t ti : T} {w wi : V} {Q : VK} (e : Ext g H g1 H1) (r : R K g1 st1 σ H1) (q : TR K g0 H0 g1 H1 σ t w) (qi : TR K g9 H9 g1 H1 σ ti wi)
    (p : Pst K mg W (TR K) g H σ (kHasT neg t ti st1) Q) : ∃ a o, w = .ref a ∧ DGet H1 a wi o ∧ Q (.bl (if neg then !o.isSome else o.isSome)) H1 := by
  unfold kHasT at p
  split at p
  · rename_i n kvs ed
    split at p
    · rename_i k ek
      obtain ⟨a, kk, rfl, h1, h2, h3⟩ := dk_ok r q ed
      have hb := view_keyK r qi ek
      subst hb
      refine ⟨a, _, rfl, DGet.k h2, ?_⟩
      have : (lookK kvs k).isSome = (valV kk k).isSome := by
        rcases h3.look k with ⟨v', w', l1, l2, l3⟩ | ⟨l1, l2⟩
        · rw [l1, l2]; rfl
        · rw [l1, l2]; rfl
      rw [← this]
      exact p g1 _ H1 e r (by show VR _ _ _ _ _; unfold VR; rfl)
    · exact p.elim
  · exact p.elim
theorem tKIn_ok {σ : L2.St} {H : Hp} {Q : VK} (h : sE X.K X.mg W (mKIn false mi mo) σ H Q) : tDIn (sE X.K X.mg W mi) (sE X.K X.mg W mo) σ H Q := by
  obtain ⟨g, st, r, p⟩ := h
  exact ⟨g, st, r, Pst.bind Ext.refl p fun g2 w H2 t st2 e2 _ r2 q2 p2 => ⟨g2, st2, r2, Pst.bind e2 p2 fun g3 w3 H3 t3 st3 e3 e3' r3 q3 p3 => kHas_ok e3 r3 q3 (TR.rel.ext r2.wf e3' q2) p3⟩⟩
theorem tKNotIn_ok {σ : L2.St} {H : Hp} {Q : VK} (h : sE X.K X.mg W (mKIn true mi mo) σ H Q) : tDNotIn (sE X.K X.mg W mi) (sE X.K X.mg W mo) σ H Q := by
  obtain ⟨g, st, r, p⟩ := h
  exact ⟨g, st, r, Pst.bind Ext.refl p fun g2 w H2 t st2 e2 _ r2 q2 p2 => ⟨g2, st2, r2, Pst.bind e2 p2 fun g3 w3 H3 t3 st3 e3 e3' r3 q3 p3 => kHas_ok e3 r3 q3 (TR.rel.ext r2.wf e3' q2) p3⟩⟩
theorem t_kin (hu : X.A.units + 1 < cLine) (hi : SE X W i mi) (ho : SE X W o mo) (h1 : behindInMarks .In o = false := by rfl) : ST X W (.Compare i [.In] [o] pos) (mTst (mKIn false mi mo)) := (pt_cmp (pc_din hu hi ho) h1).im fun σ H Q ⟨g, st, r, p⟩ =>
  tKIn_ok (Q := fun w H2 => ∃ k, w = .bl k ∧ Q k H2) ⟨g, st, r, Pst.bind (RelA := TR X.K) Ext.refl p fun g2 w H2 t st2 e2 _ r2 q2 p2 => asB_ok e2 r2 q2 p2⟩
theorem t_knotin (hu : X.A.units + 1 < cLine) (hi : SE X W i mi) (ho : SE X W o mo) (h1 : behindInMarks .NotIn o = false := by rfl) : ST X W (.Compare i [.NotIn] [o] pos) (mTst (mKIn true mi mo)) := (pt_cmp (pc_dnotin hu hi ho) h1).im fun σ H Q ⟨g, st, r, p⟩ =>
  tKNotIn_ok (Q := fun w H2 => ∃ k, w = .bl k ∧ Q k H2) ⟨g, st, r, Pst.bind (RelA := TR X.K) Ext.refl p fun g2 w H2 t st2 e2 _ r2 q2 p2 => asB_ok e2 r2 q2 p2⟩
theorem s_kin (hu : X.A.units + 1 < cLine) (hi : SE X W i mi) (ho : SE X W o mo) (h1 : behindInMarks .In o = false := by rfl) : SE X W (.Compare i [.In] [o] pos) (mKIn false mi mo) := (pe_cmp (pc_din hu hi ho) h1).im fun σ H Q h => tKIn_ok h
theorem s_knotin (hu : X.A.units + 1 < cLine) (hi : SE X W i mi) (ho : SE X W o mo) (h1 : behindInMarks .NotIn o = false := by rfl) : SE X W (.Compare i [.NotIn] [o] pos) (mKIn true mi mo) := (pe_cmp (pc_dnotin hu hi ho) h1).im fun σ H Q h => tKNotIn_ok h
theorem k_kput (hu : X.A.units + 1 < cLine) (hv : SE X W value mv) (ho : SE X W o mo) (hi : SE X W i mi) (hs : swapsWith value (some (.Subscript o i pos')) pos.line X.env = pure false := by rfl) : SS X W (.Assign [.Subscript o i pos'] value pos) (mKPut mv mo mi) := (ps_dput hu ho hi hv hs).im fun D σ H ⟨g, st, r, p⟩ =>
  ⟨g, st, r, SPst.bind Ext.refl p fun g2 w H2 t st2 e2 _ r2 q2 p2 => by
    obtain ⟨g3, st3, v, e3, r3, v3, p3⟩ := SPst.take e2 r2 q2 p2
    exact ⟨g3, st3, r3, SPst.bind (RelA := TR X.K) e3 p3 fun g4 w4 H4 t4 st4 e4 e4' r4 q4 p4 => ⟨g4, st4, r4, SPst.bind (RelA := TR X.K) e4 p4 fun g5 w5 H5 t5 st5 e5 e5' r5 q5 p5 => by
      unfold kPutT at p5
      split at p5
      · rename_i n kvs ed
        split at p5
        · rename_i k ek
          split at p5
          · rename_i hl
            obtain ⟨a, kk, rfl, h1, h2, h3⟩ := dk_ok r5 (TR.rel.ext r4.wf e5' q4) ed
            have hb := view_keyK r5 q5 ek
            subst hb
            have v5 := VR.ext r4.wf e5' _ _ (VR.ext r3.wf e4' _ _ v3)
            obtain ⟨ex, r6⟩ := r5.putHp (o' := .dk (putKk kvs k v)) (u := .dK (putK kk k w)) h1 fun g' H' ex hu => ⟨_, hu, DKs.put (VR.ext r5.wf ex _ _ v5) k (prd_map (fun _ _ z => ⟨z.1, VR.ext r5.wf ex _ _ z.2⟩) h3)⟩
            exact ⟨a, _, rfl, DPut.k h2 (by rw [← h3.length, sizeLine_eq]; exact hl), p5 g5 σ _ (e5.trans ex) r6⟩
          · exact p5.elim
        · exact p5.elim
      · exact p5.elim⟩⟩⟩
end
end Sm

namespace L2
open PySem PySem.Spec PyProof.Rows
/-! l.remove(x), x in l: data of any depth -/
def rRemD (K : PySem.W.Frag) : V → List V → Hp → VK → Prop := fun x xs H Q => ∃ (a : Addr) (ys : List V) (y : V) (d : PyData) (ds : List PyData) (j : Nat) (z : PyData), x = V.ref a ∧ xs = [y] ∧ H a = some (.lst ys) ∧ DpAll K H ys ds ∧ Dp K H y d ∧
  SeqAt.shaped (.list ds) = true ∧ SeqAt.shaped d = true ∧ ds[j]? = some z ∧ PyData.eqv z d = true ∧ (∀ (m : Nat) (z' : PyData), m < j → ds[m]? = some z' → PyData.eqv z' d = false) ∧ Q .non (upd H a (.lst (ys.eraseIdx j)))
theorem mt_remD {X : Cx} (hu : X.A.units + 65 < cLine) : MtM X "list.remove" (rRemD X.K) := by
  intro pins st σ H recv args rv us Q inv hrecv hargs prom
  obtain ⟨a, ys, y, d, ds, j, z, rfl, rfl, hH, hys, hy, hds, hd, hz, heq, hne, done⟩ := prom
  cases hrecv
  obtain ⟨u, rfl, hu1⟩ := hargs.one
  obtain ⟨bound, its, n, hits, hlen, hobj⟩ := inv.lstM hH
  obtain ⟨bs, readsY⟩ := Dp.reads inv d y u hy hu1
  obtain ⟨as, readsL⟩ := Dp.readsAll inv ds ys its hys hits
  have layL : PyData.canLayAll0 ds = true := SeqAt.canLay_of_shaped hds
  obtain ⟨hjd, rfl⟩ := List.getElem?_eq_some_iff.mp hz
  have place : SeqAt.dataPlace ds d = some j := List.findIdx?_eq_some_iff_getElem.mpr ⟨hjd, heq, fun m hm => by
    rw [hne m ds[m] hm (List.getElem?_eq_getElem (Nat.lt_trans hm hjd))]
    exact Bool.false_ne_true⟩
  refine SeqAt.remove_list_data (vs := its.toArray) (j := j) ⟨_, hobj, rfl, n, rfl⟩ readsL readsY (PyData.plainAll_of_canLay0 ds layL) (PyData.plain_of_canLay0 d (SeqAt.canLay_of_shaped hd)) (room_in_shaped hd hu) place ?_ ?_
  · rw [List.size_toArray, ← hlen]
    exact bound
  · have fewer := List.length_eraseIdx_le ys j
    exact ⟨V.non, _, inv.lset (its' := its.eraseIdx j) hH hobj (List.eraseIdxIfInBounds_toArray ..) (hits.eraseIdx j) (Nat.le_trans fewer bound), rfl, done⟩
/-- d.update(e): two dicts by ints and texts -/
def rUpd : V → List V → Hp → VK → Prop := fun x xs H Q => ∃ (a b : Addr) (kvs more : List (Key × V)), x = V.ref a ∧ xs = [.ref b] ∧ a ≠ b ∧ H a = some (.dK kvs) ∧ H b = some (.dK more) ∧ kvs.length + more.length ≤ sizeLine ∧ Q .non (upd H a (.dK (mergeK kvs more)))
theorem mt_upd {X : Cx} : MtM X "dict.update" rUpd := by
  intro pins s σ H x xs v us Q I rx rxs h
  obtain ⟨a, b, kvs, more, rfl, rfl, hab, ha, hb, hz, q⟩ := h
  cases rx
  cases rxs with
  | cons ry rt =>
    rename_i uy ut
    cases rt
    cases ry
    obtain ⟨z1, d1, vs1, r1, dd1⟩ := dk_of I.hok ha
    obtain ⟨z2, d2, vs2, r2, dd2⟩ := dk_of I.hok hb
    refine call_meetsIn PySem.F.slot_dict_update dd1.typeIs PySem.F.entry_dict_update (PySem.F.args_dict_update_2 _ _) (meets_dict_update (mixKind X.prog X.w) a b hab d2)
      ⟨vs1, vs2, dd1, dd2, (by rw [← Paired.length r1, ← Paired.length r2]; exact hz), fun h' dd' _ hs => ?_⟩
    have he : ∃ q, h'.get? a = some q := let ⟨q, _, _, hq, _⟩ := dd'; ⟨q, hq⟩
    have hz2 : (mergeK kvs more).length ≤ sizeLine := Nat.le_trans (length_mergeK more kvs) hz
    exact ⟨.non, _, d_write I (by rw [ha]; exact True.intro) hs he (dk_new hz2 d1 (r2.merge r1) dd'), rfl, q⟩
end L2
namespace Sm
open PySem L2
/-! ### list.remove -/
def chRem : List Val → List Val → Option (List Val × Val)
  | vs, [v] => if dat 64 v = true ∧ dats 63 vs = true then (vs.findIdx? fun z => vEq z v).map fun j => (vs.eraseIdx j, .non) else none
  | _, _ => none
theorem toDs_get : ∀ (vs : List Val) (m : Nat), (toDs vs)[m]? = (vs[m]?).map toD
  | [], m => by unfold toDs; simp
  | v :: vs, 0 => by unfold toDs; rfl
  | v :: vs, m + 1 => by unfold toDs; rw [List.getElem?_cons_succ, List.getElem?_cons_succ]; exact toDs_get vs m
theorem p_rem {K : PySem.W.Frag} : PCh K (rRemD K) chRem := by
  intro g H l xs vs ws us v l' Q hl hv hu e q
  unfold chRem at e
  split at e
  · rename_i u
    split at e
    · rename_i hz
      rw [Option.map_eq_some_iff] at e
      obtain ⟨j, e1, e2⟩ := e
      cases e2
      have hu' := hu
      unfold VRs at hu'
      obtain ⟨w, r, rfl, k1, k2⟩ := hu'
      unfold VRs at k2
      subst k2
      have dl : dat 64 (.lst vs) = true := by unfold dat; exact hz.2
      have s1 := dat_shaped dl
      rw [toD_lst] at s1
      have s2 : dat 64 u = true := hz.1
      rw [List.findIdx?_eq_some_iff_getElem] at e1
      obtain ⟨hj, h1, h2⟩ := e1
      refine ⟨l, xs, w, toD u, toDs vs, j, toD vs[j], rfl, rfl, hl, dats_dp 63 vs xs hz.2 hv, dat_dp 64 u w hz.1 k1, s1, dat_shaped s2, ?_, h1, fun m z hm e => ?_, q _ _ (VRs.erase _ hv) vr_non⟩
      · rw [toDs_get, List.getElem?_eq_getElem hj]; rfl
      · have hml : m < vs.length := by omega
        rw [toDs_get, List.getElem?_eq_getElem hml] at e
        cases e
        have := h2 m hm
        rw [Bool.not_eq_true] at this
        exact this
    · cases e
  · cases e
/-! ### {"k": v, ..} -/
def mPairs : List (Str × M T) → M (List T)
  | [] => fun st => .ok [] st
  | p :: ps => fun st => (p.2 st).bind fun t st1 => (mPairs ps st1).bind fun ts st2 => .ok (t :: ts) st2
def mergeKk (kvs more : List (Key × Val)) : List (Key × Val) := more.foldl (fun acc kv => putKk acc kv.1 kv.2) kvs
def mKDisp (ps : List (Str × M T)) : M T := fun st => (mPairs ps st).bind fun ts st1 => (mTakes ts st1).bind fun vs st2 => if vs.length = ps.length then .ok (.val (.ref st2.hp.length)) { st2 with hp := st2.hp ++ [.dk (mergeKk [] ((ps.map fun p => Sum.inr p.1).zip vs))] } else .bad
abbrev tStr (s : Str) : TE := fun _ H Q => Q (.str s) H
abbrev SPP (X : Cx) (W : WX) (pos : Pos) (keys : List (Option Expr)) (values : List Expr) (ps : List (Str × M T)) : Prop := PPs X pos keys values (ps.map fun p => (tStr p.1, sE X.K X.mg W p.2))
section
variable {X : Cx} {W : WX} {pos : Pos} {e : Expr} {m : M T}
theorem pp_0 : SPP X W pos [] [] [] := pps_nil
theorem pp_1 {s : Str} {j p} {ks : List (Option Expr)} {vs : List Expr} {ps : List (Str × M T)} (hv : SE X W e m) (hr : SPP X W pos ks vs ps) : SPP X W pos (some (.Constant (.str s) j p) :: ks) (e :: vs) ((s, m) :: ps) := pps_cons pe_str hv hr
theorem DKs.merge {K : PySem.W.Frag} {g : G} {H : Hp} : ∀ {more : List (Key × Val)} {mm : List (Key × V)} {kvs : List (Key × Val)} {kk : List (Key × V)}, DKs K g H more mm → DKs K g H kvs kk → DKs K g H (mergeKk kvs more) (mergeK kk mm)
  | [], _, _, _, .nil, h => h
  | p :: more, _, kvs, kk, .cons (b := q) h t, h0 => by
    show DKs K g H (mergeKk (putKk kvs p.1 p.2) more) (mergeK (putK kk q.1 q.2) _)
    have := DKs.put h.2 p.1 h0
    rw [h.1] at this ⊢
    exact DKs.merge t this
theorem pairs_ok {K : PySem.W.Frag} {mg : Str → Option Value} {g : G} {H0 : Hp} {σ : L2.St} {Q : List (V × V) → Hp → Prop} : ∀ {ps : List (Str × M T)} {g1 : G} {H1 : Hp} {st1 : MS} {Q1 : List T → List V → G → Hp → MS → Prop},
    Ext g H0 g1 H1 → R K g1 st1 σ H1 → (∀ g2 H2 ts ws st2, Ext g1 H1 g2 H2 → R K g2 st2 σ H2 → mPairs ps st1 = .ok ts st2 → TRs K g1 H1 g2 H2 σ ts ws → Q ((ps.map fun p => V.str p.1).zip ws) H2) →
    (∀ x s, mPairs ps st1 = .exc x s → ∀ g' cls d H', Ext g1 H1 g' H' → R K g' s σ H' → XR K mg g' H' x cls d → W cls d σ H') → mPairs ps st1 ≠ .bad → tPairs (ps.map fun p => (tStr p.1, sE K mg W p.2)) σ H1 Q
  | [], g1, H1, st1, _, e, r, h, _, _ => h g1 H1 [] [] st1 Ext.refl r rfl .nil
  | p :: ps, g1, H1, st1, Q1, e, r, h, hx, hb => by
    refine ⟨g1, st1, r, ?_⟩
    cases h1 : p.2 st1 with
    | bad => exact absurd (by show mPairs (p :: ps) st1 = .bad; simp only [mPairs]; rw [h1]) hb
    | exc x s => exact fun g' cls d H' e' r' x' => hx x s (by show mPairs (p :: ps) st1 = _; simp only [mPairs]; rw [h1]) g' cls d H' e' r' x'
    | ok t s =>
      intro g2 w H2 e2 r2 q2
      refine pairs_ok (ps := ps) (Q1 := Q1) (e.trans e2) r2 (fun g3 H3 ts ws st3 e3 r3 h3 q3 => ?_) (fun x s' h3 g' cls d H' e' r' x' => ?_) (fun h3 => ?_)
      · exact h g3 H3 (t :: ts) (w :: ws) st3 (e2.trans e3) r3 (by show mPairs (p :: ps) st1 = _; simp only [mPairs]; rw [h1]; show (mPairs ps s).bind _ = _; rw [h3]) (.cons (TR.rel.ext r2.wf e3 q2) (TRs.rel.sh e2 q3))
      · exact hx x s' (by show mPairs (p :: ps) st1 = _; simp only [mPairs]; rw [h1]; show (mPairs ps s).bind _ = _; rw [h3]) g' cls d H' (e2.trans e') r' x'
      · exact hb (by show mPairs (p :: ps) st1 = .bad; simp only [mPairs]; rw [h1]; show (mPairs ps s).bind _ = _; rw [h3])
theorem mpairs_len : ∀ {ps : List (Str × M T)} {st st2 : MS} {ts : List T}, mPairs ps st = .ok ts st2 → ts.length = ps.length
  | [], _, _, _, h => by cases h; rfl
  | p :: ps, st, st2, ts, h => by
    simp only [mPairs] at h
    cases h1 : p.2 st with
    | bad => rw [h1] at h; cases h
    | exc x s => rw [h1] at h; cases h
    | ok t s =>
      rw [h1] at h
      have h : (mPairs ps s).bind (fun ts st2 => .ok (t :: ts) st2) = .ok ts st2 := h
      cases h3 : mPairs ps s with
      | bad => rw [h3] at h; cases h
      | exc x s => rw [h3] at h; cases h
      | ok us s3 => rw [h3] at h; cases h; simp [mpairs_len h3]
theorem dks_zip {K : PySem.W.Frag} {g : G} {H : Hp} : ∀ {ks : List Key} {vs : List Val} {ws : List V}, VRs K g H vs ws → DKs K g H (ks.zip vs) (ks.zip ws)
  | [], vs, ws, h => .nil
  | k :: ks, [], ws, h => by unfold VRs at h; subst h; exact .nil
  | k :: ks, v :: vs, ws, h => by
    unfold VRs at h
    obtain ⟨w, r, rfl, h1, h2⟩ := h
    exact .cons ⟨rfl, h1⟩ (dks_zip h2)
theorem zip_kv : ∀ {ps : List (Str × M T)} {ws : List V}, ((ps.map fun p => V.str p.1).zip ws) = ((ps.map fun p => (Sum.inr p.1 : Key)).zip ws).map fun kv => (kV kv.1, kv.2)
  | [], _ => rfl
  | p :: ps, [] => rfl
  | p :: ps, w :: ws => by simp only [List.map_cons, List.zip_cons_cons]; rw [zip_kv (ps := ps) (ws := ws)]; rfl
theorem s_kdisp {keys : List (Option Expr)} {values : List Expr} {ps : List (Str × M T)} (h : SPP X W pos keys values ps) (hall : keys.all (·.isSome) = true := by rfl) (hl : keys.length = values.length := by rfl) (h0 : keys ≠ [] := by intro z; cases z) (h15 : keys.length ≤ 15 := by decide) (hps : ps.length ≤ 15 := by decide) :
    SE X W (.Dict keys values pos) (mKDisp ps) := (pe_disp h hall hl h0 h15).im fun σ H Q ⟨g, st, r, p⟩ a ha => by
  have d : Add H (upd H a (.dK [])) := Add.upd ha
  have wf := r.wf
  have r2 := r.add d
  have hnr := wf.no_rho ha
  have hnO := wf.no_O ha
  have hnS : ¬ g.S a := fun z => r.sa a z ha
  refine pairs_ok (mg := X.mg) (W := W) (g := g) (H0 := H) (Q1 := fun _ _ _ _ _ => True) d.ext r2 (fun g3 H3 ts ws st3 e3 r3 h3 q3 => ?_) (fun x s h3 g' cls d' H' e' r' x' => ?_) (fun h3 => ?_)
  · have eH : H3 a = some (.dK []) := e3.fr a _ upd_same (fun _ z => nomatch z) hnr hnO
    have p3 : Pst X.K X.mg W (TR X.K) g H σ ((mTakes ts st3).bind fun vs st2 => if vs.length = ps.length then .ok (.val (.ref st2.hp.length)) { st2 with hp := st2.hp ++ [.dk (mergeKk [] ((ps.map fun p => Sum.inr p.1).zip vs))] } else .bad) Q := by
      have p := p
      unfold mKDisp at p
      rw [h3] at p
      exact p
    cases hm : mTakes ts st3 with
    | exc x s => exact (takes_noexc hm).elim
    | bad => rw [hm] at p3; exact p3.elim
    | ok vs st4 =>
    rw [hm] at p3
    have p4 : Pst X.K X.mg W (TR X.K) g H σ (if vs.length = ps.length then .ok (.val (.ref st4.hp.length)) { st4 with hp := st4.hp ++ [.dk (mergeKk [] ((ps.map fun p => Sum.inr p.1).zip vs))] } else .bad) Q := p3
    obtain ⟨g4, e4, r4, v4, l4, _⟩ := takes_ok e3 r3 (prd_map (fun _ _ z => z.tw) q3) hm
    split at p4
    · rename_i hlen
      refine ⟨eH, (ps.map fun p => (Sum.inr p.1 : Key)).zip ws, zip_kv, by rw [List.length_zip, List.length_map]; omega, ?_⟩
      have h1 : ¬ (upd H a (.dK [])) a = none := by rw [upd_same]; exact fun z => nomatch z
      have nS : ¬ g4.S a := fun z => by
        rcases e4.sN a z with q | q | ⟨i, q⟩
        · exact hnS q
        · exact h1 q
        · exact hnO i q
      have nr : ∀ n, g4.rho n ≠ some a := fun n z => by
        rcases e4.rhoN n a z with q | q | ⟨i, q⟩
        · exact hnr n q
        · exact h1 q
        · exact hnO i q
      have nO : ∀ n, g4.O n ≠ some a := fun n z => by
        rcases e4.oN n a z with ⟨i, q⟩ | q
        · exact hnO i q
        · exact h1 q
      have r5 := r4.place (a := a) (o := .dk []) nS nr nO ⟨[], eH, .nil⟩
      have e5 : Ext g H (gNew g4 st4.hp.length a) H3 := (d.ext.trans e4).place (fun b z => absurd (r4.dom _ _ z) (Nat.lt_irrefl _)) (.inl ha)
      have hn : (gNew g4 st4.hp.length a).rho st4.hp.length = some a := by show (if _ = _ then _ else _) = _; rw [if_pos rfl]
      have no : ∀ b, g4.rho st4.hp.length ≠ some b := fun b z => absurd (r4.dom _ _ z) (Nat.lt_irrefl _)
      have v5 : VRs X.K (gNew g4 st4.hp.length a) H3 vs ws := VRs.up (g1 := g4) (g2 := gNew g4 st4.hp.length a) (fun n b z => by
        show (if n = st4.hp.length then some a else g4.rho n) = some b
        rw [if_neg (fun q => by rw [q] at z; exact no b z)]; exact z) (fun _ z => z) _ _ v4
      obtain ⟨ex, r6⟩ := r5.putHp (o' := .dk (mergeKk [] ((ps.map fun p => Sum.inr p.1).zip vs))) (u := .dK (mergeK [] ((ps.map fun p => (Sum.inr p.1 : Key)).zip ws))) hn fun g' H' ex hu => ⟨_, hu, DKs.merge (dks_zip (VRs.ext r5.wf ex _ _ v5)) .nil⟩
      have eS : (st4.hp ++ [Ob.dk []]).set st4.hp.length (.dk (mergeKk [] ((ps.map fun p => Sum.inr p.1).zip vs))) = st4.hp ++ [.dk (mergeKk [] ((ps.map fun p => Sum.inr p.1).zip vs))] := by
        rw [List.set_append_right _ _ (Nat.le_refl _), Nat.sub_self]; rfl
      rw [show ({ ({ st4 with hp := st4.hp ++ [Ob.dk []] } : MS) with hp := ({ st4 with hp := st4.hp ++ [Ob.dk []] } : MS).hp.set st4.hp.length (.dk (mergeKk [] ((ps.map fun p => Sum.inr p.1).zip vs))) } : MS) = { st4 with hp := st4.hp ++ [.dk (mergeKk [] ((ps.map fun p => Sum.inr p.1).zip vs))] } from by rw [← eS]] at r6
      exact p4 _ _ _ (e5.trans ex) r6 (by show VR _ _ _ _ _; unfold VR; exact ⟨a, hn, rfl⟩)
    · exact p4.elim
  · have p := p
    unfold mKDisp at p
    rw [h3] at p
    exact p g' cls d' H' (d.ext.trans e') r' x'
  · have p := p
    unfold mKDisp at p
    rw [h3] at p
    exact p
/-! ### d.update(e) -/
def kUpdT (o t : T) : M T := fun st => match dkAt o st, dkAt t st with
  | some (n, kvs), some (m, more) => if n ≠ m ∧ kvs.length + more.length ≤ 16777216 then .ok (.val .non) { st with hp := st.hp.set n (.dk (mergeKk kvs more)) } else .bad
  | _, _ => .bad
def mKUpd (mo m : M T) : M T := fun st => (mo st).bind fun o st1 => match dkAt o st1 with
  | some _ => (m st1).bind fun t st2 => kUpdT o t st2
  | none => .bad
theorem s_kupd {o : Expr} {mo : M T} {apos cpos : Pos} (ho : SE X W o mo) (he : SE X W e m)
    (tx : BmTx X o "update" e [] apos cpos := by exact ⟨⟨rfl, rfl⟩, ⟨rfl, rfl⟩, rfl⟩) :
    SE X W (.Call (.Attribute o "update" apos) [e] [] cpos) (mKUpd mo m) :=
  (pe_bm PySem.F.plainAttrs_dict PySem.F.slot_dict_update PySem.F.type_dict_update mt_upd ho (pa_cons he pa_nil tx.2.1.1) tx.1.1 tx.2.2 tx.1.2 tx.2.1.1 tx.2.1.2).im fun σ H Q ⟨g, st, r, p⟩ => ⟨g, st, r, Pst.bind Ext.refl p fun g2 w H2 t st2 e2 _ r2 q2 p2 => by
    split at p2
    · rename_i z ez
      obtain ⟨n, kvs⟩ := z
      obtain ⟨a, kk, rfl, h1, h2, h3⟩ := dk_ok r2 q2 ez
      refine ⟨.inr (.inr (.inl ⟨rfl, .inl ⟨kk, h2⟩⟩)), g2, st2, r2, Pst.bind (RelA := TR X.K) e2 p2 fun g3 w3 H3 t3 st3 e3 e3' r3 q3 p3 => ?_⟩
      unfold kUpdT at p3
      split at p3
      · rename_i n1 kvs1 m1 more1 en em
        split at p3
        · rename_i hz
          obtain ⟨a1, kk1, ew, k1, k2, k3⟩ := dk_ok r3 (TR.rel.ext r2.wf e3' q2) en
          cases ew
          obtain ⟨b1, mm1, rfl, j1, j2, j3⟩ := dk_ok r3 q3 em
          have hab : a ≠ b1 := fun z => hz.1 (r3.inj n1 m1 a k1 (by rw [z]; exact j1))
          refine ⟨a, b1, kk1, mm1, rfl, rfl, hab, k2, j2, by rw [← k3.length, ← j3.length, sizeLine_eq]; exact hz.2, ?_⟩
          obtain ⟨ex, r6⟩ := r3.putHp (o' := .dk (mergeKk kvs1 more1)) (u := .dK (mergeK kk1 mm1)) k1 fun g' H' ex hu => ⟨_, hu, DKs.merge (prd_map (fun _ _ z => ⟨z.1, VR.ext r3.wf ex _ _ z.2⟩) j3) (prd_map (fun _ _ z => ⟨z.1, VR.ext r3.wf ex _ _ z.2⟩) k3)⟩
          exact p3 _ _ _ (e3.trans ex) r6 (by show VR _ _ _ _ _; unfold VR; rfl)
        · exact p3.elim
      · exact p3.elim
    · exact p2.elim⟩
end
end Sm

namespace L2
open PySem PySem.Spec PyProof.Rows
def rLtD (K : PySem.W.Frag) : R2 := fun x y H Q => ∃ da db, Dp K H x da ∧ Dp K H y db ∧ PySem.W.alike da db = true ∧ da ≠ .none ∧ da.depth ≤ 64 ∧ Q (.bl (PySem.W.dataLt da db)) H
theorem op_ltD {X : Cx} (hu : X.A.units + 65 < cLine) : OpR X (compareOp .Lt) (rLtD X.K) := by
  intro pins s σ H x y v u Q I rx ry h
  obtain ⟨da, db, ha, hb, al, nn, hd, q⟩ := h
  obtain ⟨as, r1⟩ := Dp.reads I da x v ha rx
  obtain ⟨bs, r2⟩ := Dp.reads I db y u hb ry
  exact PySem.W.lt_data r1 r2 al nn (by omega) ⟨.bl _, H, I, rfl, q⟩
theorem op_gtD {X : Cx} (hu : X.A.units + 65 < cLine) : OpR X (compareOp .Gt) (fun x y => rLtD X.K y x) := by
  intro pins s σ H x y v u Q I rx ry h
  obtain ⟨da, db, ha, hb, al, nn, hd, q⟩ := h
  obtain ⟨as, r1⟩ := Dp.reads I da y u ha ry
  obtain ⟨bs, r2⟩ := Dp.reads I db x v hb rx
  have al2 : PySem.W.alike db da = true := by rw [PySem.W.alike_comm]; exact al
  exact PySem.W.gt_data r2 r1 al2 (fun z => by subst z; cases da <;> simp [PySem.W.alike] at al; exact nn rfl) (by omega) ⟨.bl _, H, I, rfl, q⟩
end L2
namespace Sm
open PySem L2 Lk
def isNo : PyData → Bool
  | .none => true
  | _ => false
def fLtD (v u : Val) : Option T := if dat 64 v = true ∧ dat 64 u = true ∧ PySem.W.alike (toD v) (toD u) = true ∧ isNo (toD v) = false then vB (PySem.W.dataLt (toD v) (toD u)) else none
theorem p_ltD {K : PySem.W.Frag} : P2 K (rLtD K) fLtD := by
  intro g H v1 v2 w1 w2 t Q wf h1 h2 e q
  unfold fLtD at e
  split at e
  · rename_i hz
    cases e
    refine ⟨_, _, dat_dpV hz.1 h1, dat_dpV hz.2.1 h2, hz.2.2.1, (fun z => by have := hz.2.2.2; rw [z] at this; cases this), (dat_lay _ _ hz.1).2, q _ _ .refl rr_bl⟩
  · cases e
theorem ltD_ii {a b c d : Int} : fLtD (.tup [.int a, .int b]) (.tup [.int c, .int d]) = vB (!leL [c, d] [a, b]) := by
  unfold fLtD
  rw [if_pos ⟨rfl, rfl, rfl, rfl⟩]
  show vB (PyProof.Rows.lexLt PyProof.Rows.itemOrd (PySem.W.keyToks (.tuple [.int a, .int b])) (PySem.W.keyToks (.tuple [.int c, .int d]))) = _
  rw [toks_2, toks_2, ← le_rows, Bool.not_not]
theorem ltD_bi {a c : Bool} {b d : Int} : fLtD (.tup [.bl a, .int b]) (.tup [.bl c, .int d]) = vB (!leL [if c = true then 1 else 0, d] [if a = true then 1 else 0, b]) := by
  unfold fLtD
  rw [if_pos ⟨rfl, rfl, rfl, rfl⟩]
  show vB (PyProof.Rows.lexLt PyProof.Rows.itemOrd (PySem.W.keyToks (.tuple [.bool a, .int b])) (PySem.W.keyToks (.tuple [.bool c, .int d]))) = _
  rw [toks_b, toks_b, ← le_rows, Bool.not_not]
end Sm

namespace Lk
open PySem PySem.Spec PyProof.Rows L2 LamX Sm
/-! ### a lambda with one default, a number -/
section
variable {X : Cx} {pins : List (Addr × Obj)} {σ : L2.St} {H : Hp} {s : Shared}
/-- the lambda is made, its default stands at dv -/
theorem lam_tail {T : List (Addr × Str)} {c P : Addr} {dv : Value} {params : Arguments} {body : Expr} {scope : Scope} {pos : Pos} {E Q : Value → Shared → Prop} (I : Inv X pins σ H s) (TB : TabB X.base X.mg c P) (hcode : X.env.code = .ref c) (hT : Tabs T H)
    (hm : (P, X.env.qual ++ "<lambda>") ∈ T) (hu : ∀ p ∈ T, p.1 = P → p.2 = X.env.qual ++ "<lambda>") (hfree : ∀ y ∈ scope.names, y.2 = .free → ∃ c, X.env.cells.lookup y.1 = some c)
    (h : ∀ (f c' : Addr) (H1 : Hp) (s' : Shared), Inv X pins σ (upd H1 f (LmO f (X.env.qual ++ "<lambda>") params body scope (cloFrom X.env.cells scope.names []) c' dv)) s' → ExtT H H1 → Tabs T H1 → H1 f = none → H1 c' = some (CodeO c' (X.env.qual ++ "<lambda>")) → Q (.ref f) s') :
    wpAny (model X.prog X.w) X.A (makeTail "<lambda>" (X.env.qual ++ "<lambda>") params (.expr body) scope X.env dv .none none pos pos.line) Q E s := by
  refine lam_laid (pos := pos) (fun f c' => LmO f (X.env.qual ++ "<lambda>") params body scope (cloFrom X.env.cells scope.names []) c' dv)
    (ok := fun f c' h => ∃ pm doc ctv : Value, h.get? f = some (objL (X.env.qual ++ "<lambda>") params body scope (cloFrom X.env.cells scope.names []) pm doc c' ctv dv)) ⟨fun ps Q E z1 z2 z3 go => ?_, fun ps c' Q E z1 z2 z3 go => ?_⟩ I hT hm hu
    (fun k => ⟨k, let ⟨_, _, _, e⟩ := k; ⟨_, e⟩, fun _ _ ⟨_, _, _, e⟩ st => ⟨_, _, _, st _ e⟩⟩) h
  · exact PySem.W.kdv_makeTail (mg := X.mg) (closure_ok hfree) I.ok.glob (I.mod.glob.keeps I.bk) hcode (TB.code.keeps I.bk) z1 z2 z3 TB.gP (TB.bm.keeps I.bk) fun c' ctv doc h' tk y1 y2 _ y3 y4 => go c' h' _ tk y1 y2 y3 y4 (fun b o => Heap.get?_push_of_some _) ⟨_, _, _, Heap.get?_push_size _ rfl⟩
  · exact PySem.W.kdv_makeTailHit (mg := X.mg) (closure_ok hfree) I.ok.glob (I.mod.glob.keeps I.bk) hcode (TB.code.keeps I.bk) z1 z2 z3 (TB.bm.keeps I.bk) fun ctv doc h' tk y1 _ => go h' _ tk y1 (fun b o => Heap.get?_push_of_some _) ⟨_, _, _, Heap.get?_push_size _ rfl⟩
/-- the reading: the lambda l of this frame stands at f -/
def tLamV (T : List (Addr × Str)) (l : LamD) : TE := fun _ H Q => Tabs T H ∧ ∀ (f : Addr) (H1 H2 : Hp), ExtT H H1 → Tabs T H1 → H1 f = none → (∀ b o, H1 b = some o → H2 b = some o) → LamAt H2 l f → (∀ b, b ≠ f → H2 b = H1 b) → Q (.ref f) H2
theorem pe_lamN {T : List (Addr × Str)} {c P : Addr} {l : LamD} {pos : Pos} (TB : TabB X.base X.mg c P) (hcode : X.env.code = .ref c) (hm : (P, X.env.qual ++ "<lambda>") ∈ T) (hu : ∀ p ∈ T, p.1 = P → p.2 = X.env.qual ++ "<lambda>")
    (hl : l.dv = none ∧ defaultsOf l.params X.env = ([], [])) (hq : l.q = X.env.qual ++ "<lambda>") (hcl : l.cl = cloFrom X.env.cells l.scope.names []) (hfree : ∀ y ∈ l.scope.names, y.2 = .free → X.env.scope.names.lookup y.1 = some .cell ∨ X.env.scope.names.lookup y.1 = some .free) :
    PE X (.Lambda l.params l.body l.scope pos) (tLamV T l) := by
  refine ⟨fun pins s σ H Q I ⟨hT, h⟩ => PySem.W.kla_eval hl.2 ?_⟩
  simp only [makeFunction_eq, List.zip_nil_right, List.filterMap_nil, List.isEmpty_nil, if_true, pure_bind]
  refine lam_tail (dv := .none) I TB hcode hT hm hu (fun y hy e => I.ok.has _ (hfree y hy e)) fun f c' H1 s' I1 e1 t1 n1 k1 => ⟨.ref f, _, I1, rfl, h f H1 _ e1 t1 n1 (fun b o e => (upd_ne (ne_of_none e n1)).trans e) ⟨c', .none, ?_, ?_, ?_⟩ fun b hb => upd_ne hb⟩
  · rw [hq, hcl]; exact upd_same
  · rw [hq]; exact (upd_ne (ne_of_none k1 n1)).trans k1
  · rw [hl.1]
theorem pe_lamI {T : List (Addr × Str)} {c P : Addr} {l : LamD} {i : Int} {j : Nat} {p pos : Pos} (TB : TabB X.base X.mg c P) (hcode : X.env.code = .ref c) (hm : (P, X.env.qual ++ "<lambda>") ∈ T) (hu : ∀ p ∈ T, p.1 = P → p.2 = X.env.qual ++ "<lambda>")
    (hl : l.dv = some i ∧ defaultsOf l.params X.env = ([eval (.Constant (.int i) j p) X.env], [])) (hq : l.q = X.env.qual ++ "<lambda>") (hcl : l.cl = cloFrom X.env.cells l.scope.names []) (hfree : ∀ y ∈ l.scope.names, y.2 = .free → X.env.scope.names.lookup y.1 = some .cell ∨ X.env.scope.names.lookup y.1 = some .free) :
    PE X (.Lambda l.params l.body l.scope pos) (tLamV T l) := by
  refine ⟨fun pins s σ H Q I ⟨hT, h⟩ => ?_⟩
  rw [arm_eval_Lambda, hl.2]
  show wpAny _ _ (do let dv ← evalAll [eval (.Constant (.int i) j p) X.env]; let kdv ← holding dv (evalAllOpt []); makeFunction "<lambda>" (X.env.qual ++ "<lambda>") l.params (.expr l.body) l.scope X.env dv kdv [] pos pos.line) _ _ s
  unfold evalAll
  refine wpAny_bind (wpAny_bind (thn (pe_int.run pins s σ H (fun v H1 => v = .int i ∧ H1 = H) I ⟨rfl, rfl⟩) fun u s1 ⟨v, H1, I1, r1, e1, e2⟩ => ?_))
  subst e1
  subst e2
  refine wpAny_bind (wpAny_holding (wpAny_pure (wpAny_pure (wpAny_bind (wpAny_holding (wpAny_pure ?_))))))
  simp only [makeFunction_eq, List.zip_nil_right, List.filterMap_nil, List.isEmpty_nil, List.isEmpty_cons, Bool.false_eq_true, if_false, if_true, pure_bind]
  apply wpAny_bind
  apply wpAny_newTextTuple
  have ht : H1 s1.heap.objs.size = none := I1.hok.fresh (Nat.le_refl _)
  have I2 : Inv X pins σ (upd H1 s1.heap.objs.size (.tup [.int i])) { s1 with heap := s1.heap.push { cls := .type "tuple", data := .seq [u].toArray } } :=
    I1.laid (t' := s1.toks) (o := .tup [.int i]) (fun b ob q => Heap.get?_push_of_some _ q) (Nat.le_refl _) ⟨by show 1 ≤ sizeLine; decide, [u], .cons r1 .nil, IsTup.new _ _⟩
  refine lam_tail I2 TB hcode (hT.ext fun b o e => by rw [upd_ne (ne_of_none e ht)]; exact e) hm hu (fun y hy e => I.ok.has _ (hfree y hy e)) fun f c' H2 s' I3 e3 t3 n3 k3 => ⟨.ref f, _, I3, rfl, ?_⟩
  have at_ : H2 s1.heap.objs.size = some (.tup [.int i]) := e3.ne _ _ upd_same (fun _ z => nomatch z)
  refine h f H2 _ ⟨fun b o e n => e3.ne b o (by rw [upd_ne (ne_of_none e ht)]; exact e) n, fun b ps e => e3.tb b ps (by rw [upd_ne (ne_of_none e ht)]; exact e)⟩ t3 n3 (fun b o e => by rw [upd_ne (ne_of_none e n3)]; exact e) ⟨c', .ref s1.heap.objs.size, ?_, ?_, ?_⟩ fun b hb => upd_ne hb
  · rw [hq, hcl, upd_same]
  · rw [hq, upd_ne (ne_of_none k3 n3)]; exact k3
  · rw [hl.1]
    exact ⟨_, rfl, by rw [upd_ne (ne_of_none at_ n3)]; exact at_⟩
end
end Lk

namespace Lk
open PySem PySem.Spec PyProof.Rows L2 LamX Sm
/-! ### a lambda called in the def that got it -/
/-- the names of a lambda: captured ones, globals, its own ones that the def doesn't know -/
structure LamW (N : List Str) (out sc : Scope) : Prop where
  kind : sc.kind = .function
  plain : sc.isCoroutine = false ∧ sc.isGenerator = false
  names : ∀ y ∈ sc.names, y.2 ≠ .cell ∧ (y.2 = .local → y.1 ∉ N) ∧ (y.2 = .free → out.names.lookup y.1 = some .cell ∨ out.names.lookup y.1 = some .free)
theorem LamW.nocell {N : List Str} {out sc : Scope} (L : LamW N out sc) : ∀ y ∈ sc.names, y.2 ≠ .cell := fun y hy => (L.names y hy).1
theorem LamW.cap {N : List Str} {out sc : Scope} (L : LamW N out sc) : ∀ y ∈ sc.names, y.2 = .free → out.names.lookup y.1 = some .cell ∨ out.names.lookup y.1 = some .free := fun y hy => (L.names y hy).2.2
def lamWB (N : List Str) (out sc : Scope) : Bool :=
  (sc.kind == .function && (!sc.isCoroutine && !sc.isGenerator)) && sc.names.all fun y => !decide (y.2 = .cell) && ((!decide (y.2 = .local) || !N.contains y.1) && (!decide (y.2 = .free) || (decide (out.names.lookup y.1 = some .cell) || decide (out.names.lookup y.1 = some .free))))
theorem lamW_by {N : List Str} {out sc : Scope} (h : lamWB N out sc = true) : LamW N out sc := by
  simp only [lamWB, Bool.and_eq_true, Bool.not_eq_true', beq_iff_eq, List.all_eq_true] at h
  refine ⟨h.1.1, h.1.2, fun y hy => ?_⟩
  have q := h.2 y hy
  simpa [Decidable.imp_iff_not_or, -not_or] using q
/-- what the cells of the maker's frame hold, seen from the def that was called at s -/
structure CellsOk (X : Cx) (σ : L2.St) (H : Hp) (s : Shared) : Prop where
  inj : ∀ (y z : Str) (c : Addr), X.env.cells.lookup y = some c → X.env.cells.lookup z = some c → y = z
  any : ∀ (y : Str) (c : Addr), X.env.cells.lookup y = some c → (∃ v, s.heap.IsCell c v) ∧ H c = none
  val : ∀ (i : Nat) (y : Str) (v : V), X.N[i]? = some y → σ[i]? = some (some v) → (X.env.scope.names.lookup y = some .cell ∨ X.env.scope.names.lookup y = some .free) → ∃ u c, L2.RelV v u ∧ X.env.cells.lookup y = some c ∧ s.heap.IsCell c (some u)
  has : ∀ y : Str, (X.env.scope.names.lookup y = some .cell ∨ X.env.scope.names.lookup y = some .free) → ∃ c, X.env.cells.lookup y = some c
  len : σ.length = X.N.length
theorem CellsOk.of {X : Cx} {pins : List (Addr × Obj)} {σ : L2.St} {H : Hp} {s : Shared} (I : L2.Inv X pins σ H s) : CellsOk X σ H s where
  inj := I.ok.inj
  any := fun y c e => ⟨I.cell y c e, I.freeC y c e⟩
  val := fun i y v e1 e2 e3 => by
    obtain ⟨m, hn, hl⟩ := I.loc
    obtain ⟨u, r, q⟩ := hl i y v e1 e2 (.inr e3)
    rcases q with ⟨k, _⟩ | ⟨_, c, e4, z⟩
    · have k : X.env.scope.names.lookup y = some .local := k
      rcases e3 with e3 | e3 <;> rw [e3] at k <;> cases k
    · exact ⟨u, c, r, e4, z⟩
  has := fun y e => I.ok.has y e
  len := I.len
/-- .. and later, behind a change that leaves what is not tracked -/
theorem CellsOk.later {X : Cx} {σ : L2.St} {H H1 : Hp} {s s1 : Shared} {fs ex : List Addr} (c : CellsOk X σ H s) (u : Un fs ex H H1 s.heap s1.heap) (hx : ∀ y a, X.env.cells.lookup y = some a → a ∉ ex) : CellsOk X σ H1 s1 where
  inj := c.inj
  any := fun y a e => by
    obtain ⟨⟨v, o, ho, hd⟩, n⟩ := c.any y a e
    obtain ⟨sl, q⟩ := u.any ho n (hx y a e)
    exact ⟨⟨v, _, q, hd⟩, u.free a o ho n (hx y a e)⟩
  val := fun i y v e1 e2 e3 => by
    obtain ⟨w, a, r, e4, o, ho, hd⟩ := c.val i y v e1 e2 e3
    obtain ⟨sl, q⟩ := u.any ho (c.any y a e4).2 (hx y a e4)
    exact ⟨w, a, r, e4, _, q, hd⟩
  has := c.has
  len := c.len
/-- the context of a lambda's body -/
def lamZ (X : Cx) (A : Around) (outer : List Env) (s : Shared) (H : Hp) (E : XK) (l : LamD) (f c' : Addr) : Cx where
  prog := X.prog
  w := X.w
  K := X.K
  mg := X.mg
  base := X.base
  A := A.deeper (PySem.W.envX l.q l.scope s.heap.objs.size f (.ref c') l.cl)
  N := X.N
  s_0 := s
  H_0 := H
  env := PySem.W.envX l.q l.scope s.heap.objs.size f (.ref c') l.cl
  outer := outer
  stack := PySem.W.envX l.q l.scope s.heap.objs.size f (.ref c') l.cl :: outer
  ex := []
  fn := fun _ => false
  calm := true
  pn := []
  xe := fun e s' => wpAny (model X.prog X.w) (A.deeper (PySem.W.envX l.q l.scope s.heap.objs.size f (.ref c') l.cl)) (leaving (PySem.W.envX l.q l.scope s.heap.objs.size f (.ref c') l.cl) e) (fun _ s'' => L2.CX X.prog X.w outer H s E e s'') (fun e' s'' => L2.CX X.prog X.w outer H s E e' s'') s'
theorem lamZ_start {X : Cx} {A : Around} {outer : List Env} {E : XK} {l : LamD} {f c' : Addr} {σ : L2.St} {H : Hp} {s : Shared} {h1 : Heap} {tk : Nat} {bs : List (Str × Value)} (C : CellsOk X σ H s) (L : LamW X.N X.env.scope l.scope) (hcl : l.cl = cloFrom X.env.cells l.scope.names [])
    (e0 : Env0 X.prog X.w X.K X.mg X.base A outer s H) (hd : A.handled = none) (hns : h1.Ns s.heap.objs.size fun y => bs.reverse.lookup y) (kp : ∀ b o, s.heap.get? b = some o → h1.get? b = some o) :
    L2.Inv (lamZ X A outer s H E l f c') [] σ H { s with heap := h1, toks := tk } := by
  have hfree : ∀ y ∈ l.scope.names, y.2 = .free → ∃ c, X.env.cells.lookup y.1 = some c := fun y hy e => C.has y.1 (L.cap y hy e)
  have up : ∀ {y : Str} {c : Addr}, l.cl.lookup y = some c → X.env.cells.lookup y = some c := fun {y c} e => by
    rw [hcl] at e
    rcases cloFrom_mem (PySem.mem_of_lookup e) with z | ⟨z1, z2⟩
    · cases z
    · obtain ⟨c1, z3⟩ := hfree _ z1 rfl
      have z3 : X.env.cells.lookup y = some c1 := z3
      rw [z2, z3]
      rfl
  have dn : ∀ {y : Str}, l.scope.names.lookup y = some .free → ∃ c, l.cl.lookup y = some c := fun {y} e => by
    have hy : (y, NameKind.free) ∈ l.scope.names := PySem.mem_of_lookup e
    rw [hcl]
    exact mem_lookup (cloFrom_has (cells := X.env.cells) (acc := []) hy)
  have cellK : ∀ {c : Addr} {v : Option Value}, s.heap.IsCell c v → h1.IsCell c v := fun {c v} ⟨o, z1, z2⟩ => ⟨o, kp _ _ z1, z2⟩
  have nox : ∀ b : Addr, b ∉ (lamZ X A outer s H E l f c').ex := fun b z => absurd (show b ∈ ([] : List Addr) from z) (by simp)
  have hvis : ∀ {y : Str} {i : Nat}, X.N[i]? = some y → Vis l.scope y → l.scope.names.lookup y = some .free := fun {y i} hN hv => by
    rcases hv with k | k | k
    · exact absurd (List.mem_of_getElem? hN) ((L.names _ (PySem.mem_of_lookup k)).2.1 rfl)
    · exact absurd rfl (L.nocell _ (PySem.mem_of_lookup k))
    · exact k
  refine { ok := ?_, os := rfl, bare := e0.bare, base := Un.kept kp, loc := ⟨_, hns, fun i y v e1 e2 e3 => ?_⟩, cell := fun y c e => ?_, free := e0.hok.fresh (Nat.le_refl _), freeC := fun y c e => (C.any y c (up e)).2, pin := fun q hq => absurd (show q ∈ ([] : List (Addr × Obj)) ++ [] from hq) (by simp), hok := e0.hok.kept kp, len := C.len }
  · refine { mod := e0.mod, kind := L.kind, glob := rfl, blt := rfl, above := Nat.le_refl _, inj := fun y z c e1 e2 => C.inj y z c (up e1) (up e2), has := fun y hy => ?_, cab := fun y c z _ => ?_, hd := fun _ => hd, frames := Around.frames_deeper e0.frames, stk := .inr ⟨rfl, rfl⟩, exf := fun b z => absurd z (nox b), bs := e0.bs, bsz := e0.bsz, noex := fun b _ _ => nox b, exfs := fun b z => absurd z (nox b), funs := e0.funs, frf := e0.frf }
    · have hy : l.scope.names.lookup y = some .cell ∨ l.scope.names.lookup y = some .free := hy
      rcases hy with hy | hy
      · exact absurd rfl (L.nocell _ (PySem.mem_of_lookup hy))
      · exact dn hy
    · have z : false = true := z
      cases z
  · have k := hvis e1 e3
    obtain ⟨u, c, r, z1, z2⟩ := C.val i y v e1 e2 (L.cap _ (PySem.mem_of_lookup k) rfl)
    obtain ⟨c2, z3⟩ := dn k
    have := up z3
    rw [z1] at this
    cases this
    exact ⟨u, r, .inr ⟨.inr k, c, z3, cellK z2⟩⟩
  · obtain ⟨⟨v, z⟩, _⟩ := C.any y c (up e)
    exact ⟨v, cellK z⟩
/-- the function object of a lambda -/
abbrev lamFn (l : LamD) (dv doc pm cdv ctv : Value) : FuncData := PySem.W.kdv_fn "<lambda>" l.q l.params (.expr l.body) l.scope l.cl dv doc pm cdv ctv
/-- how a lambda binds when it's called without arguments -/
def LamBind (l : LamD) : Prop := match l.dv with
  | none => ∀ doc pm cdv ctv : Value, bindArgs (lamFn l .none doc pm cdv ctv) ⟨[], []⟩ = pure []
  | some _ => ∃ a : Str, l.scope.names.lookup a = some .local ∧ ∀ (doc pm cdv ctv : Value) (t : Addr), ∃ k, bindArgs (lamFn l (.ref t) doc pm cdv ctv) ⟨[], []⟩ = seqItems? (.ref t) >>= k ∧ ∀ u, k (some #[u]) = pure [(a, u)]
/-- within the def called at s from X's frame -/
abbrev inDef (X : Cx) (CXg : CXT) (Eg : XK) (Ng : List Str) (qg : Str) (sg : Scope) (g : Addr) (cdg : Value) (s : Shared) (H : Hp) (pn : List (Addr × Obj)) (xe : Value → Shared → Prop) : Cx := (cxOf CXg X.prog X.w X.K X.mg X.base Ng qg sg g cdg X.A X.stack s H Eg).tr pn xe
/-- the lambda's object at f is called: its body runs in a frame of its own -/
theorem lam_runs {X : Cx} {σ : L2.St} {HZ : Hp} {s1 : Shared} {A : Around} {outer : List Env} {l : LamD} {f : Addr} {k : Nat} {E : XK} {tb : TE} {Q : VK} (C : CellsOk X σ HZ s1) (L : LamW X.N X.env.scope l.scope) (hcl : l.cl = cloFrom X.env.cells l.scope.names []) (hB : LamBind l)
    (e0 : Env0 X.prog X.w X.K X.mg X.base A outer s1 HZ) (hok : HOk X.prog X.w HZ s1.heap) (lim : s1.heap.NoLimit) (hr : Room (k + 1) A) (hl : LamAt HZ l f) (ht : tb σ HZ Q)
    (hbody : ∀ c' : Addr, Room k (A.deeper (PySem.W.envX l.q l.scope s1.heap.objs.size f (.ref c') l.cl)) → PE (lamZ X A outer s1 HZ E l f c') l.body tb) :
    codeAny (model X.prog X.w) A (.call (.ref f) ⟨[], []⟩) (CR (L2.CX X.prog X.w) outer X.prog X.w HZ s1 Q E) s1 := by
  obtain ⟨c', dv, at1, at2, hd⟩ := hl
  obtain ⟨⟨pm, doc, ctv, obj⟩, _⟩ := hok f _ at1
  obtain ⟨⟨oc, vs, t, c1, c2, c3⟩, _⟩ := hok c' _ at2
  have go : ∀ bs : List (Str × Value), BindsTo s1 (lamFn l dv doc pm (.ref c') ctv) ⟨[], []⟩ bs → (∀ y ∈ bs, l.scope.names.lookup y.1 = some .local) → codeAny (model X.prog X.w) A (.call (.ref f) ⟨[], []⟩) (CR (L2.CX X.prog X.w) outer X.prog X.w HZ s1 Q E) s1 := fun bs b1 b2 =>
    PySem.W.kla_callFunE hr.depth obj rfl L.plain.1 L.plain.2 rfl ⟨c', oc, vs, t, rfl, c1, c2, c3⟩ (b1 _ _ _ _ (wpAny_newFunctionEnv L.nocell b2 (fun hh ns sb => by
      have kp : ∀ b o, s1.heap.get? b = some o → hh.get? b = some o := fun b o e => sb.extBut b o (Nat.ne_of_lt (Heap.lt_size e)) (Heap.get?_push_of_some _ e)
      refine ⟨lim.fresh _ sb, PySem.W.kla_codeExpr (wpAny_mono ((hbody c' (hr.deeper _)).run [] _ _ HZ Q (lamZ_start (tk := s1.toks + bs.length) C L hcl e0 hr.hd ns kp) ht) ?_ fun _ _ z => z)⟩
      rintro v s2 ⟨w', H', J, r, q⟩
      exact ⟨w', H', J.os, J.bare, J.base, J.hok, r, q⟩) L.kind))
  unfold LamBind at hB
  cases e : l.dv with
  | none =>
    rw [e] at hB hd
    exact go [] (.of_eq (hd ▸ hB _ _ _ _)) nofun
  | some j =>
    rw [e] at hB hd
    obtain ⟨t2, rfl, et⟩ := hd
    obtain ⟨an, loc, hk⟩ := hB
    obtain ⟨k2, b1, b2⟩ := hk doc pm (.ref c') ctv t2
    obtain ⟨_, its, rt, ob, e1, _, n, e3⟩ := hok t2 _ et
    cases rt with | cons _ rr => ?_
    cases rr
    exact go [(an, _)] (.of_defaults rfl e1 e3 b1 (b2 _)) fun y hy => List.mem_singleton.mp hy ▸ loc
/-- a(), where a holds the lambda l -/
theorem pe_actV {X : Cx} {σ : L2.St} {H : Hp} {s : Shared} {CXg : CXT} {Eg : XK} {Ng : List Str} {qg : Str} {sg : Scope} {g : Addr} {cdg : Value} {l : LamD} {k i : Nat} {a : Str} {pn : List (Addr × Obj)} {xe : Value → Shared → Prop} {W : WX} {E : XK} {tb : TE} {p1 p2 : Pos}
    (C : CellsOk X σ H s) (L : LamW X.N X.env.scope l.scope) (hcl : l.cl = cloFrom X.env.cells l.scope.names []) (hB : LamBind l) (tk : Takes (inDef X CXg Eg Ng qg sg g cdg s H pn xe) W) (hW : ∀ cls d σ' H', E cls d H' → W cls d σ' H')
    (hr : Room (k + 1) (X.A.deeper (envOfC qg sg s.heap.objs.size g cdg)))
    (hbody : ∀ (A : Around) (outer : List Env) (s : Shared) (H : Hp) (f c' : Addr), Room k (A.deeper (PySem.W.envX l.q l.scope s.heap.objs.size f (.ref c') l.cl)) → PE (lamZ X A outer s H E l f c') l.body tb)
    (hN : Ng[i]? = some a) (hv : Vis sg a) (hd : (a == ("__debug__" : Str)) = false := by decide) (hcd : (a == ("__classdict__" : Str)) = false := by decide) :
    PE (inDef X CXg Eg Ng qg sg g cdg s H pn xe) (.Call (.Name a p1) [] [] p2) (fun σZ HZ Q => ∃ f, σZ[i]? = some (some (.ref f)) ∧ LamAt HZ l f ∧ tb σ HZ Q) := by
  refine ⟨fun pz sz σz HZ Q IZ ⟨f, hs, hl, ht⟩ => wpAny_Call_Name_kw (thn ((pe_var (pos := p1) (i := i) hN hv hd hcd).run pz sz σz HZ (fun v H1 => v = .ref f ∧ H1 = HZ) IZ ⟨.ref f, hs, rfl, rfl⟩) ?_)⟩
  rintro u s1 ⟨v, H1, J, hu, rfl, rfl⟩
  cases hu
  have hl0 := hl
  obtain ⟨c', dv, at1, _⟩ := hl0
  obtain ⟨⟨pm, doc, ctv, obj⟩, _⟩ := J.hok f _ at1
  have un : Un (frs X.stack) [] H H1 s.heap s1.heap := J.base
  refine PySem.W.callWith_F0 ⟨_, _, _, _, obj⟩ (wpAny_call (codeAny_mono (lam_runs (X := X) (C.later un fun _ _ _ => List.not_mem_nil) L hcl hB J.env0 J.hok J.nolimit hr hl ht fun c' hr2 => hbody _ _ s1 H1 f c' hr2) fun r s2 back => ?_))
  match r, back with
  | .error e, back => exact passes_call tk hW pz σz H1 s1 e s2 J back
  | .ok (.ret u), back => exact J.after back
end Lk

namespace L2
open PySem PySem.Spec PyProof.Rows
/-- l.count(x): data of any depth -/
def rCntD (K : PySem.W.Frag) : V → List V → Hp → VK → Prop := fun x xs H Q => ∃ (a : Addr) (ys : List V) (y : V) (d : PyData) (ds : List PyData), x = V.ref a ∧ xs = [y] ∧ SqL K H a ys ∧ DpAll K H ys ds ∧ Dp K H y d ∧
  SeqAt.shaped (.list ds) = true ∧ SeqAt.shaped d = true ∧ Q (.int ((ds.countP fun z => PyData.eqv z d : Nat) : Int)) H
theorem mt_cntD {X : Cx} (hu : X.A.units + 65 < cLine) : MtR X "list.count" (rCntD X.K) := by
  intro pins st σ H recv args rv us Q inv hrecv hargs prom
  obtain ⟨a, ys, y, d, ds, rfl, rfl, hsq, hys, hy, hds, hd, done⟩ := prom
  cases hrecv
  obtain ⟨u, rfl, hu1⟩ := hargs.one
  obtain ⟨its, hits, isl, _⟩ := inv.list hsq
  obtain ⟨bs, readsY⟩ := Dp.reads inv d y u hy hu1
  obtain ⟨as, readsL⟩ := Dp.readsAll inv ds ys its hys hits
  have layL : PyData.canLayAll0 ds = true := SeqAt.canLay_of_shaped hds
  exact SeqAt.count_list_data (vs := its.toArray) isl.isList readsL readsY (PyData.plainAll_of_canLay0 ds layL) (PyData.plain_of_canLay0 d (SeqAt.canLay_of_shaped hd)) (room_in_shaped hd hu)
    ⟨V.int (ds.countP fun z => PyData.eqv z d : Nat), H, inv.tok _, ⟨_, rfl⟩, done⟩
end L2
namespace Lk
open PySem PySem.Spec PyProof.Rows L2 LamX Sm
/-! ### count, index -/
def fCnt : Val → List Val → Option T
  | .lst vs, [v] => if dat 64 v = true ∧ dats 63 vs = true then vI (vs.countP fun z => vEq z v : Nat) else none
  | _, _ => none
def fIdx : Val → List Val → Option T
  | .lst vs, [v] => if dat 64 v = true ∧ dats 63 vs = true then (vs.findIdx? fun z => vEq z v).map fun j => .val (.int (j : Nat)) else none
  | _, _ => none
theorem toDs_map : ∀ vs : List Val, toDs vs = vs.map toD
  | [] => by unfold toDs; rfl
  | v :: vs => by unfold toDs; rw [toDs_map vs]; rfl
theorem p_cnt {K : PySem.W.Frag} : PM K (rCntD K) fCnt := by
  intro g H v w vs ws t Q wf hv hs e q
  unfold fCnt at e
  split at e
  · rename_i us u
    split at e
    · rename_i hz
      cases e
      cases hs with | cons h1 h2 => ?_
      cases h2
      obtain ⟨a, xs, rfl, k1, k2⟩ := vw_lst hv
      have dl : dat 64 (.lst us) = true := by unfold dat; exact hz.2
      have s1 := dat_shaped dl
      rw [toD_lst] at s1
      refine ⟨a, xs, _, toD u, toDs us, rfl, rfl, SqL.of k1, dats_dp 63 us xs hz.2 k2, dat_dpV hz.1 h1, s1, dat_shaped hz.1, ?_⟩
      have ec : (toDs us).countP (fun z => PyData.eqv z (toD u)) = us.countP fun z => vEq z u := by
        rw [toDs_map, List.countP_map]
        rfl
      rw [ec]
      exact q _ _ .refl rr_int
    · cases e
  · cases e
theorem p_idx {K : PySem.W.Frag} : PM K (rIndexD K) fIdx := by
  intro g H v w vs ws t Q wf hv hs e q
  unfold fIdx at e
  split at e
  · rename_i us u
    split at e
    · rename_i hz
      rw [Option.map_eq_some_iff] at e
      obtain ⟨j, e1, e2⟩ := e
      cases e2
      cases hs with | cons h1 h2 => ?_
      cases h2
      obtain ⟨a, xs, rfl, k1, k2⟩ := vw_lst hv
      have dl : dat 64 (.lst us) = true := by unfold dat; exact hz.2
      have s1 := dat_shaped dl
      rw [toD_lst] at s1
      rw [List.findIdx?_eq_some_iff_getElem] at e1
      obtain ⟨hj, h3, h4⟩ := e1
      refine ⟨a, _, toD u, toDs us, j, toD us[j], rfl, rfl, .lst (SqL.of k1) (dats_dp 63 us xs hz.2 k2), dat_dpV hz.1 h1, s1, dat_shaped hz.1, ?_, h3, fun m z hm e => ?_, q _ _ .refl rr_int⟩
      · rw [toDs_get, List.getElem?_eq_getElem hj]; rfl
      · have hml : m < us.length := by omega
        rw [toDs_get, List.getElem?_eq_getElem hml] at e
        cases e
        have := h4 m hm
        rw [Bool.not_eq_true] at this
        exact this
    · cases e
  · cases e
/-- l.extend([..]) -/
def chExt : List Val → List Val → Option (List Val × Val)
  | vs, [.lst us] => if vs.length + us.length ≤ 1000 then some (vs ++ us, .non) else none
  | _, _ => none
theorem p_ext {K : PySem.W.Frag} : PCh K rExtend chExt := by
  intro g H l xs vs ws us v l' Q hl hv hu e q
  unfold chExt at e
  split at e
  · split at e
    · rename_i zs hz
      cases e
      have hu' := hu
      unfold VRs at hu'
      obtain ⟨w, r, rfl, h1, h2⟩ := hu'
      unfold VRs at h2
      subst h2
      unfold VR at h1
      obtain ⟨b, ys, rfl, _, h3, h4⟩ := h1
      refine ⟨l, b, xs, ys, rfl, rfl, hl, h3, ?_, q _ _ (hv.app h4) vr_non⟩
      rw [← hv.length, ← h4.length, sizeLine_eq]
      omega
    · cases e
  · cases e
end Lk

namespace Lk
open PySem PySem.Spec PyProof.Rows L2 LamX Sm
/-! ### in an except suite: the caught exception asked -/
/-- what an own class of exceptions must have -/
structure XcF (K : PySem.W.Frag) (D : Addr) : Prop extends ExcC K D where
  cl : (PySem.W.clsIn K D).isSome = true
def xcB (K : PySem.W.Frag) (D : Addr) : Bool := xfB K D && ((PySem.W.clsIn K D).isSome && (decide (PySem.W.findIn K (.ref D) "__class__" = some (some (.builtin "object.__class__")) ∧ PySem.W.takesIn K (.builtin "object.__class__") = some true) &&
  decide (PySem.W.specialIn K (.builtin "object.__class__") "__get__" = some (some (.builtin "getset_descriptor.__get__")) ∧ PySem.W.mroIn K D (.type "object") = some true)))
theorem xcB_ok {K : PySem.W.Frag} {D : Addr} (h : xcB K D = true) : XcF K D := by
  simp only [xcB, Bool.and_eq_true, decide_eq_true_eq] at h
  obtain ⟨f, c, ⟨k1, k2⟩, k3, k4⟩ := h
  have F := xfB_ok f
  exact { hg := F.ga, hk := F.gg, hs := F.exC, hd := F.hdC, ha := k1, hn := k3, ht := k2, hm := k4, cl := c }
theorem XcF.xf {K : PySem.W.Frag} {D : Addr} (F : XcF K D) : XfC K D := ⟨F.hg, F.hk, F.hs, F.hd⟩
def rIsEG (K : PySem.W.Frag) (D a : Addr) (d : Option Addr) : List V → Hp → VK → Prop := fun xs H Q => (d = none ∨ ∃ p ws, d = some p ∧ H p = some (.xd ws)) ∧ rIsE K D a xs H Q
section
variable {X : Cx} {W : WX} {a D : Addr} {oe : Obj} {d : Option Addr} {pn : List (Addr × Obj)}
/-- .. of an exception with fields, too -/
theorem call_isEG (C : XcF X.K D) (hz : Zc (.ref D) d oe) (hf : ∃ vs, oe.data = .fields vs) : CallR (X.suite a ((a, oe) :: pn)) (.builtin "isinstance") (rIsEG X.K D a d) := by
  rintro pins s σ H _ us Q I r ⟨dict, c, cv, b, rfl, one, e, q⟩
  obtain _ | ⟨ra, _ | ⟨rc, _ | _⟩⟩ := r
  obtain rfl := one _ rc
  cases ra
  have here := (I.pin (a, oe) (List.mem_append_left _ List.mem_cons_self)).1
  have noCls : PySem.W.notCls oe := by
    obtain ⟨vs, hv⟩ := hf
    unfold PySem.W.notCls
    rw [hv] <;> rfl
  have inst : ∃ od, PySem.W.InstAt s.heap a oe D od := by
    rcases dict with rfl | ⟨p, ws, rfl, at_⟩
    · exact ⟨none, here, hz.1, noCls, hz.2 ▸ trivial⟩
    · obtain ⟨m, ns, _⟩ : ObjOk X.prog X.w H s.heap p (.xd ws) := I.hok p _ at_
      obtain ⟨od, ho, _⟩ := lookIn_ns ns
      exact ⟨some od, here, hz.1, noCls, by rw [hz.2]; exact ho⟩
  obtain ⟨od, J⟩ := inst
  exact PySem.W.kia_one (PySem.W.kitx_exc C.cl C.hg C.hk C.hs C.ha C.hn C.ht C.hm) I.kIn J e nofun fun tk => ⟨.bl b, H, I.kept (t' := tk) fun _ _ z => z, rfl, q⟩
def mIsE (i : Nat) (a : Addr) (d : Option Addr) (b : Bool) : M T := fun st => match st.sl[i]? with
  | some (.val (.adr a' d' _ _)) => if a' = a ∧ d' = d then .ok (.val (.bl b)) st else .bad
  | _ => .bad
def mXf (i : Nat) (a : Addr) (d : Option Addr) (f : Str) : M T := fun st => match st.sl[i]? with
  | some (.val (.adr a' d' ns vs)) => if a' = a ∧ d' = d then (match (ns.zip vs).lookup f with
    | some v => .ok (.val v) st
    | none => .bad) else .bad
  | _ => .bad
theorem s_isE {i : Nat} {en Dn : Str} {cv : V} {cu : Value} {b : Bool} {p pe pD pos : Pos} (C : XcF X.K D) (hz : Zc (.ref D) d oe) (hf : ∃ vs, oe.data = .fields vs) (hc : PE (X.suite a ((a, oe) :: pn)) (.Name Dn pD) (L2.tC cv)) (hcv : ∀ u, RelV cv u → u = cu) (hk : PySem.W.kitOne X.K (.ref D) cu = some b)
    (hgi : Gl (X.suite a ((a, oe) :: pn)) "isinstance") (hmi : X.mg "isinstance" = none) (hbi : bootBuiltins "isinstance" = some (.builtin "isinstance")) (hN : X.N[i]? = some en) (hv : Vis X.env.scope en) (hd : (en == ("__debug__" : Str)) = false) (hcd : (en == ("__classdict__" : Str)) = false) :
    SE (X.suite a ((a, oe) :: pn)) W (.Call (.Name "isinstance" p) [.Name en pe, .Name Dn pD] [] pos) (mIsE i a d b) :=
  (pe_callB (call_isEG C hz hf) hgi hmi hbi (pa_cons (pe_var (X := X.suite a ((a, oe) :: pn)) (i := i) hN hv hd hcd) (pa_cons hc pa_nil))).im fun σ H Q ⟨g, st, r, p⟩ => by
    unfold mIsE at p
    split at p
    · rename_i a' d' ns vs q
      split at p
      · rename_i e
        obtain ⟨rfl, rfl⟩ := e
        obtain ⟨w, h1, h2⟩ := r.vl i _ q
        unfold VR at h2
        obtain ⟨rfl, h2⟩ := h2
        refine ⟨_, h1, ?_⟩
        show (_ ∧ rIsE _ _ _ _ _ _)
        refine ⟨h2.imp (fun z => z.1) (fun ⟨p, ws, z1, z2, _⟩ => ⟨p, ws, z1, z2⟩), cv, cu, b, rfl, hcv, hk, p g _ H Ext.refl r ?_⟩
        show VR _ _ _ _ _
        unfold VR
        rfl
      · exact p.elim
    · exact p.elim
theorem zip_look {K : PySem.W.Frag} {g : G} {H : Hp} {f : Str} {v : Val} : ∀ {vs : List Val} {ws : List (Str × V)}, VRs K g H vs (ws.map (·.2)) → ((ws.map (·.1)).zip vs).lookup f = some v → ∃ w, ws.lookup f = some w ∧ VR K g H v w
  | [], ws, h, e => by simp at e
  | u :: vs, [], h, e => by simp at e
  | u :: vs, (n, x) :: ws, h, e => by
    unfold VRs at h
    obtain ⟨w, r, h1, h2, h3⟩ := h
    rw [List.map_cons] at h1
    cases h1
    simp only [List.map_cons, List.zip_cons_cons, List.lookup_cons] at e ⊢
    split at e
    · cases e
      exact ⟨x, rfl, h2⟩
    · exact zip_look h3 e
theorem s_xf {i : Nat} {en f : Str} {pe pos : Pos} (C : XcF X.K D) (hno : PySem.W.findIn X.K (.ref D) f = some none) (hz : Zc (.ref D) d oe) (hf : ∃ vs, oe.data = .fields vs)
    (hb : attributeBase (.Name en pe) f X.env (eval (.Name en pe) X.env) = eval (.Name en pe) X.env) (hN : X.N[i]? = some en) (hv : Vis X.env.scope en) (hd : (en == ("__debug__" : Str)) = false) (hcd : (en == ("__classdict__" : Str)) = false) :
    SE (X.suite a ((a, oe) :: pn)) W (.Attribute (.Name en pe) f pos) (mXf i a d f) :=
  (pe_xf C.xf hno hz hf (pe_var (X := X.suite a ((a, oe) :: pn)) (i := i) hN hv hd hcd) hb).im fun σ H Q ⟨g, st, r, p⟩ => by
    unfold mXf at p
    split at p
    · rename_i a' d' ns vs q
      split at p
      · rename_i e
        obtain ⟨rfl, rfl⟩ := e
        obtain ⟨w, h1, h2⟩ := r.vl i _ q
        unfold VR at h2
        obtain ⟨rfl, h2⟩ := h2
        split at p
        · rename_i v ev
          rcases h2 with ⟨_, rfl, rfl⟩ | ⟨pp, ws, h3, h4, h5, h6⟩
          · simp at ev
          · subst h5
            obtain ⟨w, h7, h8⟩ := zip_look h6 ev
            exact ⟨_, h1, rfl, rfl, pp, ws, w, h3, h4, h7, p g _ H Ext.refl r h8⟩
        · exact p.elim
      · exact p.elim
    · exact p.elim
end
end Lk

namespace Lk
open PySem PySem.Spec PyProof.Rows L2 LamX Sm
/-! ### the kind of a refusal -/
def isC (C D : Str) : Bool := decide (C = D)
def kCls : List Str := ["BadStep", "BadPlan", "NoMachine", "BadDeed", "BadText", "BadStore", "BadRule", "BadCount", "TooMany"]
def kFs : List Str := ["machine", "step", "beat", "row", "number"]
structure ExK (K : PySem.W.Frag) (mg : Str → Option Value) : Prop where
  mgC : ∀ C ∈ kCls, mg C = some (.ref (He.ga K C))
  mgB : mg "BreathError" = some (.ref (He.ga K "BreathError"))
  xc : ∀ C ∈ kCls, XcF K (He.ga K C)
  kit : ∀ C ∈ kCls, ∀ D ∈ kCls, PySem.W.kitOne K (.ref (He.ga K C)) (.ref (He.ga K D)) = some (isC C D)
  kv : ∀ C ∈ kCls, PySem.W.kitOne K (.ref (He.ga K C)) (.type "ValueError") = some true
  ex : ∀ C ∈ kCls, PySem.W.exmOne K (.ref (He.ga K C)) (.ref (He.ga K "BreathError")) = some true
  no : ∀ C ∈ kCls, ∀ f ∈ kFs, PySem.W.findIn K (.ref (He.ga K C)) f = some none
def exkB (K : PySem.W.Frag) : Bool :=
  (("BreathError" : Str) :: kCls).all (fun C => decide (PySem.W.nsIn K PySem.mainGlobals C = some (some (.ref (He.ga K C))))) && kCls.all fun C =>
    xcB K (He.ga K C) && (kCls.all (fun D => decide (PySem.W.kitOne K (.ref (He.ga K C)) (.ref (He.ga K D)) = some (isC C D))) && (decide (PySem.W.kitOne K (.ref (He.ga K C)) (.type "ValueError") = some true) &&
      (decide (PySem.W.exmOne K (.ref (He.ga K C)) (.ref (He.ga K "BreathError")) = some true) && kFs.all fun f => decide (PySem.W.findIn K (.ref (He.ga K C)) f = some none))))
theorem exkB_ok {K : PySem.W.Frag} {h : Heap} {mg : Str → Option Value} (X : K.In h) (G : h.Ns PySem.mainGlobals mg) (e : exkB K = true) : ExK K mg := by
  unfold exkB at e
  simp only [Bool.and_eq_true, List.all_eq_true, decide_eq_true_eq] at e
  obtain ⟨h1, h2⟩ := e
  exact ⟨fun C hC => PySem.W.mg_of X G (h1 C (List.mem_cons_of_mem _ hC)), PySem.W.mg_of X G (h1 _ List.mem_cons_self), fun C hC => xcB_ok (h2 C hC).1, fun C hC D hD => (h2 C hC).2.1 D hD, fun C hC => (h2 C hC).2.2.1, fun C hC => (h2 C hC).2.2.2.1, fun C hC f hf => (h2 C hC).2.2.2.2 f hf⟩
def m_ks (a : Addr) (d : Option Addr) (C : Str) : M Fl := 
  (mSeq (mAsg (mLst (mA1 (mIsE 1 a d (isC C "BadStep")) (mA1 (mIsE 1 a d (isC C "BadPlan")) (mA1 (mIsE 1 a d (isC C "NoMachine")) (mA1 (mIsE 1 a d (isC C "BadDeed")) mA0))))) (mGN 2))
      (mSeq (mExpr (mCh chExt (mV 2) (mA1 (mLst (mA1 (mIsE 1 a d (isC C "BadText")) (mA1 (mIsE 1 a d (isC C "BadStore")) (mA1 (mIsE 1 a d (isC C "BadRule")) (mA1 (mIsE 1 a d (isC C "BadCount")) mA0))))) mA0)))
      (mSeq (mExpr (mCh chApp (mV 2) (mA1 (mIsE 1 a d (isC C "TooMany")) mA0)))
      (mSeq (mIf (mOr (mTst (mOp2 fNe (mMt "list" fCnt (mV 2) (mA1 (mC (.bl true)) mA0)) (mC (.int 1)))) (mNot (mTst (mIsE 1 a d true)))) (mRet (mTup (mA1 (mC (.str "other")) (mA1 (mC (.int 0)) mA0)))) mSkip)
      (mSeq (mIf (mTst (mOp2 fIx (mV 2) (mC (.int 0)))) (mRet (mTup (mA1 (mC (.str "step")) (mA1 (mTup (mA1 (mXf 1 a d "machine") (mA1 (mXf 1 a d "step") mA0))) mA0)))) mSkip)
      (mSeq (mIf (mOr (mTst (mOp2 fIx (mV 2) (mC (.int 1)))) (mTst (mOp2 fIx (mV 2) (mC (.int 4))))) (mRet (mIfE (mTst (mOp2 fIx (mV 2) (mC (.int 1)))) (mTup (mA1 (mC (.str "plan")) (mA1 (mXf 1 a d "beat") mA0))) (mTup (mA1 (mC (.str "text")) (mA1 (mXf 1 a d "row") mA0))))) mSkip)
      (mSeq (mIf (mOr (mTst (mOp2 fIx (mV 2) (mC (.int 2)))) (mTst (mOp2 fIx (mV 2) (mC (.int 3))))) (mRet (mTup (mA1 (mIfE (mTst (mOp2 fIx (mV 2) (mC (.int 2)))) (mC (.str "machine")) (mC (.str "deed"))) (mA1 (mXf 1 a d "number") mA0)))) mSkip)
      (mRet (mTup (mA1 (mOp2 fIx (mLst (mA1 (mC (.str "store")) (mA1 (mC (.str "rule")) (mA1 (mC (.str "count")) (mA1 (mC (.str "many")) mA0))))) (mMt "list" fIdx (mSl fSl (mV 2) (mO1 (mC (.int 5))) mO0) (mA1 (mC (.bl true)) mA0))) (mA1 (mC (.int 0)) mA0)))))))))))
/-- the kind of a refusal: class, names, values -/
def kOut (C : Str) (ns : List Str) (vs : List Val) : Option Val :=
  if C = "BadStep" then ((ns.zip vs).lookup ("machine" : Str)).bind fun x => ((ns.zip vs).lookup ("step" : Str)).map fun y => .tup [.str "step", .tup [x, y]]
  else if C = "BadPlan" then ((ns.zip vs).lookup ("beat" : Str)).map fun x => .tup [.str "plan", x]
  else if C = "BadText" then ((ns.zip vs).lookup ("row" : Str)).map fun x => .tup [.str "text", x]
  else if C = "NoMachine" then ((ns.zip vs).lookup ("number" : Str)).map fun x => .tup [.str "machine", x]
  else if C = "BadDeed" then ((ns.zip vs).lookup ("number" : Str)).map fun x => .tup [.str "deed", x]
  else if C = "BadStore" then some (.tup [.str "store", .int 0])
  else if C = "BadRule" then some (.tup [.str "rule", .int 0])
  else if C = "BadCount" then some (.tup [.str "count", .int 0])
  else if C = "TooMany" then some (.tup [.str "many", .int 0])
  else none
theorem kOut_mem {C : Str} {ns : List Str} {vs : List Val} {v : Val} (h : kOut C ns vs = some v) : C ∈ kCls := by
  unfold kOut at h
  unfold kCls
  split at h
  · rename_i e; rw [e]; simp
  split at h
  · rename_i e; rw [e]; simp
  split at h
  · rename_i e; rw [e]; simp
  split at h
  · rename_i e; rw [e]; simp
  split at h
  · rename_i e; rw [e]; simp
  split at h
  · rename_i e; rw [e]; simp
  split at h
  · rename_i e; rw [e]; simp
  split at h
  · rename_i e; rw [e]; simp
  split at h
  · rename_i e; rw [e]; simp
  · cases h
section
variable {a : Addr} {d : Option Addr} {ns : List Str} {vs : List Val} {hp : List Ob} {x0 x2 : Sl} {b : Bool}
theorem isE_ev : mIsE 1 a d b ⟨hp, [x0, .val (.adr a d ns vs), x2]⟩ = .ok (.val (.bl b)) ⟨hp, [x0, .val (.adr a d ns vs), x2]⟩ := by simp [mIsE]
theorem xf_ev {f : Str} {v : Val} (h : (ns.zip vs).lookup f = some v) : mXf 1 a d f ⟨hp, [x0, .val (.adr a d ns vs), x2]⟩ = .ok (.val v) ⟨hp, [x0, .val (.adr a d ns vs), x2]⟩ := by simp [mXf, h]
end
theorem seq_ev {p q : M Fl} {st st1 : MS} (h : p st = .ok .nx st1) : mSeq p q st = q st1 := by
  show (p st).bind _ = _
  rw [h]
theorem seq_rt {p q : M Fl} {st st1 : MS} {t : T} (h : p st = .ok (.ret t) st1) : mSeq p q st = .ok (.ret t) st1 := by
  show (p st).bind _ = _
  rw [h]
theorem if_T {c : M Bool} {p q : M Fl} {st : MS} (h : c st = .ok true st) : mIf c p q st = p st := by
  show (c st).bind _ = _
  rw [h]; rfl
theorem if_F {c : M Bool} {p : M Fl} {st : MS} (h : c st = .ok false st) : mIf c p mSkip st = .ok .nx st := by
  show (c st).bind _ = _
  rw [h]; rfl
theorem or_ev {c e : M Bool} {st : MS} (h : c st = .ok false st) : mOr c e st = e st := by
  show (c st).bind _ = _
  rw [h]; rfl
def ks4 (C : Str) : List Val := [.bl (isC C "BadStep"), .bl (isC C "BadPlan"), .bl (isC C "NoMachine"), .bl (isC C "BadDeed")]
def ks8 (C : Str) : List Val := [.bl (isC C "BadText"), .bl (isC C "BadStore"), .bl (isC C "BadRule"), .bl (isC C "BadCount")]
def ks9 (C : Str) : List Val := ks4 C ++ ks8 C ++ [.bl (isC C "TooMany")]
section
variable {C : Str} {ns : List Str} {vs : List Val} {hp : List Ob} {a : Addr} {d : Option Addr}
theorem k1_ev : mAsg (mLst (mA1 (mIsE 1 a d (isC C "BadStep")) (mA1 (mIsE 1 a d (isC C "BadPlan")) (mA1 (mIsE 1 a d (isC C "NoMachine")) (mA1 (mIsE 1 a d (isC C "BadDeed")) mA0))))) (mGN 2) ⟨hp, [.no, .val (.adr a d ns vs), .no]⟩ = .ok .nx ⟨hp, [.no, .val (.adr a d ns vs), .own (ks4 C)]⟩ := by
  simp only [mAsg, mLst, mA1, isE_ev, Out.bind, mA0, mTakes, mTake]
  rfl
theorem k2_ev : mExpr (mCh chExt (mV 2) (mA1 (mLst (mA1 (mIsE 1 a d (isC C "BadText")) (mA1 (mIsE 1 a d (isC C "BadStore")) (mA1 (mIsE 1 a d (isC C "BadRule")) (mA1 (mIsE 1 a d (isC C "BadCount")) mA0))))) mA0)) ⟨hp, [.no, .val (.adr a d ns vs), .own (ks4 C)]⟩ = .ok .nx ⟨hp, [.no, .val (.adr a d ns vs), .own (ks4 C ++ ks8 C)]⟩ := by
  have e : mV 2 ⟨hp, [.no, .val (.adr a d ns vs), .own (ks4 C)]⟩ = .ok (.loc 2) ⟨hp, [.no, .val (.adr a d ns vs), .own (ks4 C)]⟩ := rfl
  have e2 : isL (.loc 2) ⟨hp, [.no, .val (.adr a d ns vs), .own (ks4 C)]⟩ = true := rfl
  simp only [mExpr, mCh, e, e2, mLst, mA1, isE_ev, Out.bind, mA0, mTakes, mTake]
  rfl
theorem k3_ev : mExpr (mCh chApp (mV 2) (mA1 (mIsE 1 a d (isC C "TooMany")) mA0)) ⟨hp, [.no, .val (.adr a d ns vs), .own (ks4 C ++ ks8 C)]⟩ = .ok .nx ⟨hp, [.no, .val (.adr a d ns vs), .own (ks9 C)]⟩ := by
  have e : mV 2 ⟨hp, [.no, .val (.adr a d ns vs), .own (ks4 C ++ ks8 C)]⟩ = .ok (.loc 2) ⟨hp, [.no, .val (.adr a d ns vs), .own (ks4 C ++ ks8 C)]⟩ := rfl
  have e2 : isL (.loc 2) ⟨hp, [.no, .val (.adr a d ns vs), .own (ks4 C ++ ks8 C)]⟩ = true := rfl
  simp only [mExpr, mCh, e, e2, mA1, isE_ev, Out.bind, mA0, mTakes, mTake]
  rfl
theorem cnt_ev (hC : C ∈ kCls) : fCnt (.lst (ks9 C)) [.bl true] = vI 1 := by
  unfold kCls at hC
  simp only [List.mem_cons, List.not_mem_nil, or_false] at hC
  rcases hC with rfl | rfl | rfl | rfl | rfl | rfl | rfl | rfl | rfl <;> rfl
theorem k4_ev (hC : C ∈ kCls) {p : M Fl} : mIf (mOr (mTst (mOp2 fNe (mMt "list" fCnt (mV 2) (mA1 (mC (.bl true)) mA0)) (mC (.int 1)))) (mNot (mTst (mIsE 1 a d true)))) p mSkip ⟨hp, [.no, .val (.adr a d ns vs), .own (ks9 C)]⟩ = .ok .nx ⟨hp, [.no, .val (.adr a d ns vs), .own (ks9 C)]⟩ := by
  refine if_F ?_
  have e : mMt "list" fCnt (mV 2) (mA1 (mC (.bl true)) mA0) ⟨hp, [.no, .val (.adr a d ns vs), .own (ks9 C)]⟩ = outT (fCnt (.lst (ks9 C)) [.bl true]) ⟨hp, [.no, .val (.adr a d ns vs), .own (ks9 C)]⟩ := rfl
  rw [cnt_ev hC] at e
  have h1 : mTst (mOp2 fNe (mMt "list" fCnt (mV 2) (mA1 (mC (.bl true)) mA0)) (mC (.int 1))) ⟨hp, [.no, .val (.adr a d ns vs), .own (ks9 C)]⟩ = .ok false ⟨hp, [.no, .val (.adr a d ns vs), .own (ks9 C)]⟩ := by
    simp only [mTst, mOp2, e]
    rfl
  have h2 : mNot (mTst (mIsE 1 a d true)) ⟨hp, [.no, .val (.adr a d ns vs), .own (ks9 C)]⟩ = .ok false ⟨hp, [.no, .val (.adr a d ns vs), .own (ks9 C)]⟩ := by
    simp only [mNot, mTst, isE_ev]
    rfl
  exact (or_ev h1).trans h2
theorem ix_ev {i : Int} {b : Bool} (h : atI (ks9 C) i = some (.bl b)) : mTst (mOp2 fIx (mV 2) (mC (.int i))) ⟨hp, [.no, .val (.adr a d ns vs), .own (ks9 C)]⟩ = .ok b ⟨hp, [.no, .val (.adr a d ns vs), .own (ks9 C)]⟩ := by
  have e : mOp2 fIx (mV 2) (mC (.int i)) ⟨hp, [.no, .val (.adr a d ns vs), .own (ks9 C)]⟩ = outT ((atI (ks9 C) i).map .val) ⟨hp, [.no, .val (.adr a d ns vs), .own (ks9 C)]⟩ := rfl
  rw [h] at e
  simp only [mTst, e]
  rfl
theorem orT_ev {c e : M Bool} {st : MS} (h : c st = .ok true st) : mOr c e st = .ok true st := by
  show (c st).bind _ = _
  rw [h]; rfl
theorem ret_ev {m : M T} {st : MS} {v : Val} (h : m st = .ok (.val v) st) : mRet m st = .ok (.ret (.val v)) st := by
  show (m st).bind _ = _
  rw [h]; rfl
theorem tup_ev {m1 m2 : M T} {st : MS} {v1 v2 : Val} (h : m1 st = .ok (.val v1) st) (h2 : m2 st = .ok (.val v2) st) : mTup (mA1 m1 (mA1 m2 mA0)) st = .ok (.val (.tup [v1, v2])) st := by
  have e : (mA1 m1 (mA1 m2 mA0)) st = .ok [.val v1, .val v2] st := by
    show (m1 st).bind _ = _
    rw [h]
    show ((m2 st).bind _).bind _ = _
    rw [h2]; rfl
  show ((mA1 m1 (mA1 m2 mA0)) st).bind _ = _
  rw [e]; rfl
theorem ife_T {c : M Bool} {m1 m2 : M T} {st : MS} (h : c st = .ok true st) : mIfE c m1 m2 st = m1 st := by
  show (c st).bind _ = _
  rw [h]; rfl
theorem ife_F {c : M Bool} {m1 m2 : M T} {st : MS} (h : c st = .ok false st) : mIfE c m1 m2 st = m2 st := by
  show (c st).bind _ = _
  rw [h]; rfl
end
theorem ks_ev {C : Str} {ns : List Str} {vs : List Val} {v : Val} {hp : List Ob} (h : kOut C ns vs = some v) (a : Addr) (d : Option Addr) : ∃ sl, m_ks a d C ⟨hp, [.no, .val (.adr a d ns vs), .no]⟩ = .ok (.ret (.val v)) ⟨hp, sl⟩ := by
  have hC := kOut_mem h
  refine ⟨[.no, .val (.adr a d ns vs), .own (ks9 C)], ?_⟩
  unfold m_ks
  rw [seq_ev k1_ev, seq_ev k2_ev, seq_ev k3_ev, seq_ev (k4_ev hC)]
  have hC' := hC
  unfold kCls at hC'
  simp only [List.mem_cons, List.not_mem_nil, or_false] at hC'
  rcases hC' with rfl | rfl | rfl | rfl | rfl | rfl | rfl | rfl | rfl
  · unfold kOut at h
    rw [if_pos rfl] at h
    rw [Option.bind_eq_some_iff] at h
    obtain ⟨x, hx, h⟩ := h
    rw [Option.map_eq_some_iff] at h
    obtain ⟨y, hy, rfl⟩ := h
    exact seq_rt ((if_T (ix_ev (b := true) rfl)).trans (ret_ev (tup_ev rfl (tup_ev (xf_ev hx) (xf_ev hy)))))
  · unfold kOut at h
    rw [if_neg (by decide), if_pos rfl, Option.map_eq_some_iff] at h
    obtain ⟨x, hx, rfl⟩ := h
    rw [seq_ev (if_F (ix_ev (b := false) rfl))]
    exact seq_rt ((if_T (orT_ev (ix_ev (b := true) rfl))).trans (ret_ev ((ife_T (ix_ev (b := true) rfl)).trans (tup_ev rfl (xf_ev hx)))))
  · unfold kOut at h
    rw [if_neg (by decide), if_neg (by decide), if_neg (by decide), if_pos rfl, Option.map_eq_some_iff] at h
    obtain ⟨x, hx, rfl⟩ := h
    rw [seq_ev (if_F (ix_ev (b := false) rfl)), seq_ev (if_F ((or_ev (ix_ev (b := false) rfl)).trans (ix_ev (b := false) rfl)))]
    exact seq_rt ((if_T (orT_ev (ix_ev (b := true) rfl))).trans (ret_ev (tup_ev (ife_T (ix_ev (b := true) rfl)) (xf_ev hx))))
  · unfold kOut at h
    rw [if_neg (by decide), if_neg (by decide), if_neg (by decide), if_neg (by decide), if_pos rfl, Option.map_eq_some_iff] at h
    obtain ⟨x, hx, rfl⟩ := h
    rw [seq_ev (if_F (ix_ev (b := false) rfl)), seq_ev (if_F ((or_ev (ix_ev (b := false) rfl)).trans (ix_ev (b := false) rfl)))]
    exact seq_rt ((if_T ((or_ev (ix_ev (b := false) rfl)).trans (ix_ev (b := true) rfl))).trans (ret_ev (tup_ev (ife_F (ix_ev (b := false) rfl)) (xf_ev hx))))
  · unfold kOut at h
    rw [if_neg (by decide), if_neg (by decide), if_pos rfl, Option.map_eq_some_iff] at h
    obtain ⟨x, hx, rfl⟩ := h
    rw [seq_ev (if_F (ix_ev (b := false) rfl))]
    exact seq_rt ((if_T ((or_ev (ix_ev (b := false) rfl)).trans (ix_ev (b := true) rfl))).trans (ret_ev ((ife_F (ix_ev (b := false) rfl)).trans (tup_ev rfl (xf_ev hx)))))
  all_goals
    have h := Option.some.inj ((show kOut _ ns vs = some _ from rfl).symm.trans h)
    subst h
    rw [seq_ev (if_F (ix_ev (b := false) rfl)), seq_ev (if_F ((or_ev (ix_ev (b := false) rfl)).trans (ix_ev (b := false) rfl))), seq_ev (if_F ((or_ev (ix_ev (b := false) rfl)).trans (ix_ev (b := false) rfl)))]
    exact ret_ev rfl
end Lk

namespace Lk
open PySem PySem.Spec PyProof.Rows L2 LamX Sm
/-! ### x(lambda: ..), where x tells the kind of what the lambda raises -/
abbrev nKind : List Str := ["_law_call", "e", "_law_kinds"]
/-- what stands in the exception's dict -/
def ExD (K : PySem.W.Frag) (g : G) (H : Hp) (d : Option Addr) (ns : List Str) (vs : List Val) : Prop := (d = none ∧ ns = [] ∧ vs = []) ∨ ∃ p ws, d = some p ∧ H p = some (.xd ws) ∧ ws.map (·.1) = ns ∧ VRs K g H vs (ws.map (·.2))
/-- an exception whose kind is what is wanted -/
def EK (K : PySem.W.Frag) (Q : VK) : XK := fun cls d H => ∃ C, C ∈ kCls ∧ cls = .ref (He.ga K C) ∧ ∃ (g : G) (hp : List Ob) (ns : List Str) (vs : List Val) (v : Val), RH K g hp H ∧ (∀ i, g.O i = none) ∧ ExD K g H d ns vs ∧ kOut C ns vs = some v ∧
  ∀ g' w H', Ext g H g' H' → RH K g' hp H' → VR K g' H' v w → Q w H'
def TTk (K : PySem.W.Frag) (tl : XK → Hp → VK → Prop) (H : Hp) (Q : VK) : Prop := tl (EK K Q) H (fun _ H' => ([V.str "", V.int 0] : List V).length ≤ sizeLine ∧ ∀ a, H' a = none → Q (.ref a) (upd H' a (.tup [.str "", .int 0])))
abbrev kCx (P : Program) (w : World) (K : PySem.W.Frag) (mg : Str → Option Value) (base : Heap) (sg : Scope) (g : Addr) (cdg : Value) (A : Around) (stack : List Env) (s : Shared) (H : Hp) : Cx := cxOf C8.CX0 P w K mg base nKind "_law_kind" sg g cdg A stack s H C8.E0
def GivesK (P : Program) (w : World) (K : PySem.W.Frag) (mg : Str → Option Value) (base : Heap) (A : Around) (stack : List Env) (sg : Scope) (bg : List Stmt) : Prop :=
  ∀ (g : Addr) (cdg : Value) (f : Addr) (Lf : Hp → Prop) (s : Shared) (H : Hp) (Q : VK) (tl : XK → Hp → VK → Prop), Room 1 (A.deeper (envOfC "_law_kind" sg s.heap.objs.size g cdg)) →
    (∀ (W : WX) (pn : List (Addr × Obj)) (xe : Value → Shared → Prop) (E : XK) (p1 p2 : Pos), Takes ((kCx P w K mg base sg g cdg A stack s H).tr pn xe) W → (∀ cls d σ' H', E cls d H' → W cls d σ' H') →
      PE ((kCx P w K mg base sg g cdg A stack s H).tr pn xe) (.Call (.Name "_law_call" p1) [] [] p2) (fun σZ HZ Q => σZ[0]? = some (some (.ref f)) ∧ Lf HZ ∧ tl E HZ Q)) →
    Lf H → TTk K tl H Q →
    ∃ t, PSs (kCx P w K mg base sg g cdg A stack s H).nox bg t ∧ t { nx := fun _ H' => Q .non H', rt := Q } (L2.start nKind [.ref f]) H
theorem takes_len {X : Cx} {W : WX} (tk : Takes X W) : Takes X (fun cls d σ H => σ.length = X.N.length → W cls d σ H) := fun u s' ⟨a, B, sI, pins, σ, H, cls, d, e, I, nb, up, sky, na, os, ag, w⟩ =>
  tk u s' ⟨a, B, sI, pins, σ, H, cls, d, e, I, nb, up, sky, na, os, ag, w I.len⟩
theorem kind_gives {P : Program} {w : World} {K : PySem.W.Frag} {mg : Str → Option Value} {base : Heap} {A : Around} {stack : List Env} {sg : Scope} {b₀ : Stmt} {suite : List Stmt} {j1 j2 x1} {p1 p2 p3 p4 p5 p6 p7 p8 p9 p10 : Pos} (kx : ExK K mg)
    (hge : sg.names.lookup ("BreathError" : Str) = some .globalImplicit) (hle : sg.names.lookup ("e" : Str) = some .local)
    (hks : ∀ (g : Addr) (cdg : Value) (s : Shared) (H : Hp) (C : Str), Room 1 (A.deeper (envOfC "_law_kind" sg s.heap.objs.size g cdg)) → C ∈ kCls → ∀ (a : Addr) (oe : Obj) (d : Option Addr) (pn : List (Addr × Obj)), Zc (.ref (He.ga K C)) d oe → (∃ vs, oe.data = .fields vs) →
      SSs ((kCx P w K mg base sg g cdg A stack s H).nox.suite a ((a, oe) :: pn)) W0 (b₀ :: suite) (m_ks a d C)) :
    GivesK P w K mg base A stack sg [.Try [.Expr (.Call (.Name "_law_call" p1) [] [] p2) p3] [.ExceptHandler (some (.Name "BreathError" p4)) (some "e") (b₀ :: suite) p5] [] [] p6, .Return (some (.Tuple [.Constant (.str "") j1 p7, .Constant (.int 0) j2 p8] x1 p9)) p10] := by
  intro g cdg f Lf s H Q tl hr act hL h
  refine ⟨_, pss_cons (ps_try_as (X := (kCx P w K mg base sg g cdg A stack s H).nox) (i := 1) (c := .ref (He.ga K "BreathError"))
    (ts := fun a cls d D σ H => ∃ C, C ∈ kCls ∧ cls = .ref (He.ga K C) ∧ sS K mg W0 (m_ks a d C) D σ H)
    (tb := fun W D σ H => ∃ Ech : XK, (∀ cls d σ' H', Ech cls d H' → σ'.length = 3 → W cls d σ' H') ∧ σ[0]? = some (some (.ref f)) ∧ Lf H ∧ tl Ech H (fun _ H' => D.nx σ H'))
    rfl rfl (by show nKind.Nodup; decide) rfl hle ⟨hge, by decide, .inl kx.mgB⟩ L2.takes0 (fun W pn xe tk _ => ?_) (fun a oe cls d pn hz hf => ?_)) (pss_one (ps_ret (pe_tup (pa_cons pe_str (pa_cons pe_int pa_nil))))), ?_⟩
  · refine ⟨fun pins s' σ H' D I h' => ?_⟩
    obtain ⟨Ech, hW, h1, h2, h3⟩ := h'
    have hp := act _ pn xe Ech p1 p2 (takes_len tk) (fun cls d σ' H' z hl => hW cls d σ' H' z hl)
    exact (pss_one (ps_expr (pos := p3) hp)).run pins s' σ H' D I ⟨h1, h2, h3⟩
  · refine ⟨fun pins s' σ H' D I h' => ?_⟩
    obtain ⟨C, hC, rfl, h'⟩ := h'
    exact (hks g cdg s H C hr hC a oe d pn hz hf).run pins s' σ H' D I h'
  · refine ⟨EK K Q, fun cls d σ' H' z hl => ?_, rfl, hL, ?_⟩
    · obtain ⟨C, hC, rfl, g', hp', ns, vs, v, rh, gO, ed, hk, hq⟩ := z
      refine ⟨true, kx.ex C hC, fun _ a ha => ⟨C, hC, rfl, g', ⟨hp', [.no, .val (.adr a d ns vs), .no]⟩, ?_, ?_⟩, fun z => nomatch z⟩
      · refine { toRH := rh, len := by rw [List.length_set, hl]; rfl, vl := fun i u e => ?_, ow := fun i us e => ?_, oi := fun i b e => (by rw [gO i] at e; cases e), oinj := fun i j b e => (by rw [gO i] at e; cases e) }
        · match i, e with
          | 0, e => cases e
          | 2, e => cases e
          | n + 3, e => cases e
          | 1, e =>
            have e : Sl.val (.adr a d ns vs) = .val u := Option.some.inj e
            cases e
            refine ⟨.ref a, by rw [List.getElem?_set_self (by rw [hl]; decide)], ?_⟩
            unfold VR
            exact ⟨rfl, ed⟩
        · match i, e with
          | 0, e => cases e
          | 1, e => cases e
          | 2, e => cases e
          | n + 3, e => cases e
      · obtain ⟨sl, e⟩ := ks_ev (hp := hp') hk a d
        rw [e]
        exact fun g'' w' σ'' H'' e'' r'' t'' _ => hq g'' w' H'' e'' r''.toRH t''
    · exact h
def mKind (mb : M T) : M T := fun st => match mb st with
  | .ok _ s => .ok (.val (.tup [.str "", .int 0])) s
  | .exc e s => (match kOut e.cls (e.fs.map (·.1)) (e.fs.map (·.2)) with
    | some v => .ok (.val v) s
    | none => .bad)
  | .bad => .bad
theorem ttk_ok {K : PySem.W.Frag} {mg : Str → Option Value} {W : WX} {mb : M T} {g : G} {st : MS} {σ : L2.St} {H H2 : Hp} {Q : VK} (kx : ExK K mg) (e0 : Ext g H g H2) (r : R K g st σ H2) (p : Pst K mg W (TR K) g H σ (mKind mb st) Q) :
    TTk K (fun E HZ Q => sE K mg (fun cls d _ H => E cls d H) mb σ HZ Q) H2 Q := by
  refine ⟨g, st, r, ?_⟩
  unfold mKind at p
  cases hm : mb st with
  | bad => rw [hm] at p; exact p.elim
  | ok t s =>
    rw [hm] at p
    intro g' w H' e' r' _
    refine ⟨by rw [sizeLine_eq]; decide, fun a ha => ?_⟩
    have d : Add H' (upd H' a (.tup [.str "", .int 0])) := Add.upd ha
    refine p g' _ _ ((e0.trans e').trans d.ext) (r'.add d) ?_
    show VR _ _ _ _ _
    unfold VR
    exact ⟨a, _, rfl, upd_same, VRs.cons (by unfold VR; rfl) (VRs.cons (by unfold VR; rfl) VRs.nil)⟩
  | exc e s =>
    rw [hm] at p
    intro g' cls d H' e' r' x'
    dsimp only at p
    cases hk : kOut e.cls (e.fs.map (·.1)) (e.fs.map (·.2)) with
    | none => rw [hk] at p; exact p.elim
    | some v =>
      rw [hk] at p
      have hC := kOut_mem hk
      obtain ⟨x1, x2⟩ := x'
      have ec : cls = .ref (He.ga K e.cls) := Option.some.inj (x1.symm.trans (kx.mgC _ hC))
      refine ⟨e.cls, hC, ec, g'.cut, s.hp, _, _, v, r'.toRH.O _, fun _ => rfl, ?_, hk, fun g'' w H'' e'' rh'' v'' => ?_⟩
      · split at x2
        · rename_i ef
          rw [ef]
          exact .inl ⟨x2, rfl, rfl⟩
        · obtain ⟨q, ws, y1, y2, y3, y4⟩ := x2
          exact .inr ⟨q, ws, y1, y2, y3, y4.O _⟩
      · obtain ⟨ex, rr⟩ := r'.called e'' rh''
        exact p _ w H'' ((e0.trans e').trans ex) rr (VR.O _ v'')
/-- _law_kind called with what stands at f -/
theorem kind_run' {X : Cx} {pins : List (Addr × Obj)} {σ : L2.St} {H : Hp} {s : Shared} {Q : VK} {k : Nat} {pg : Arguments} {bg : List Stmt} {sg : Scope} {p pos : Pos} {a : Expr}
    (F : ∃ g fd, X.mg "_law_kind" = some (.ref g) ∧ FunD X.K "_law_kind" "_law_kind" pg bg sg [] [] g fd) (Sg : FnScope nKind ["_law_call"] sg) (hbd : ∀ {f fd}, FunD X.K "_law_kind" "_law_kind" pg bg sg [] [] f fd → L2.Binds X.K fd ["_law_call"] [])
    (hG : GivesK X.prog X.w X.K X.mg X.base X.A X.stack sg bg) (hr : Room (k + 2) X.A) (I : Inv X pins σ H s) (hg : Gl X "_law_kind")
    (ha : wpAny (model X.prog X.w) X.A (eval a X.env) (fun u s1 => ∃ f, u = .ref f ∧ ∃ (Lf : Hp → Prop) (tl : XK → Hp → VK → Prop) (H1 : Hp), Inv X pins σ H1 s1 ∧ Lf H1 ∧ TTk X.K tl H1 Q ∧ ∀ (g : Addr) (cdg : Value), Room (k + 1) (X.A.deeper (envOfC "_law_kind" sg s1.heap.objs.size g cdg)) →
      ∀ (W : WX) (pn : List (Addr × Obj)) (xe : Value → Shared → Prop) (E : XK) (p1 p2 : Pos), Takes ((kCx X.prog X.w X.K X.mg X.base sg g cdg X.A X.stack s1 H1).tr pn xe) W → (∀ cls d σ' H', E cls d H' → W cls d σ' H') →
        PE ((kCx X.prog X.w X.K X.mg X.base sg g cdg X.A X.stack s1 H1).tr pn xe) (.Call (.Name "_law_call" p1) [] [] p2) (fun σZ HZ Q => σZ[0]? = some (some (.ref f)) ∧ Lf HZ ∧ tl E HZ Q)) X.xe s)
    (hst : starEach [a] X.env = [(false, eval a X.env)] := by rfl) (hdb : (("_law_kind" : Str) == ("__debug__" : Str)) = false := by decide) :
    wpAny (model X.prog X.w) X.A (eval (.Call (.Name "_law_kind" p) [a] [] pos) X.env) (EP X pins σ Q) X.xe s := by
  obtain ⟨g, fd, hm, F⟩ := F
  have bind := hbd F
  have keep := F.kp
  obtain ⟨_, _, _, _, _, _, _, cdv, _, _, rfl, look, code, _⟩ := F.ex
  refine wpAny_Call_Name_kw (ld_glob I hg hm (PySem.W.callWith_K (h₀ := X.base) I.ok.mod.kin keep ?_ hst (by rfl)) hdb)
  rw [show backTo pos (starEach [a] X.env) = [(false, eval a X.env)] by rw [hst]; rfl]
  refine Calls.spliced_cons (wpAny_mono ha ?_ fun _ _ z => z)
  rintro _ s1 ⟨f, rfl, Lf, tl, H1, I1, lf, tt, act⟩
  refine Calls.spliced_nil ⟨I1.kIn, wpAny_call (codeAny_mono (run_ofS (CX := C8.CX0) (E := C8.E0) (N := nKind) (ps := ["_law_call"]) (us := [.ref f]) (vs := [.ref f]) (Q := Q) look code Sg hr I1.env0 (bind s1 [.ref f] I1.kIn rfl) (.cons rfl .nil) rfl fun hr1 => ?_) fun r s2 back => ?_)⟩
  · obtain ⟨t, ht, hq⟩ := hG g cdv f Lf s1 H1 Q tl (hr1.mono (by omega)) (act g cdv hr1) lf tt
    exact ⟨t, ht.nox, hq⟩
  · match r, back with
    | .error e, back => exact False.elim back
    | .ok (.ret u), back => exact I1.after back
theorem s_kindL {X : Cx} {W : WX} {c P : Addr} {k : Nat} {pg : Arguments} {bg : List Stmt} {sg scope : Scope} {params : Arguments} {body : Expr} {p lpos pos : Pos} {mb : M T} (kx : ExK X.K X.mg)
    (F : ∃ g fd, X.mg "_law_kind" = some (.ref g) ∧ FunD X.K "_law_kind" "_law_kind" pg bg sg [] [] g fd) (Sg : FnScope nKind ["_law_call"] sg) (hbd : ∀ {f fd}, FunD X.K "_law_kind" "_law_kind" pg bg sg [] [] f fd → L2.Binds X.K fd ["_law_call"] [])
    (hG : GivesK X.prog X.w X.K X.mg X.base X.A X.stack sg bg) (hva : Vis sg "_law_call")
    (TB : TabB X.base X.mg c P) (hcode : X.env.code = .ref c) (hmT : (P, X.env.qual ++ "<lambda>") ∈ tbl X.K) (hu : ∀ p ∈ tbl X.K, p.1 = P → p.2 = X.env.qual ++ "<lambda>") (hr : Room (k + 2) X.A) (hg : Gl X "_law_kind")
    (L : LamW X.N X.env.scope scope) (hdef : defaultsOf params X.env = ([], []))
    (hbind : ∀ (q : Str) (cl : List (Str × Addr)) (doc pm cdv ctv : Value), bindArgs (lamFn ⟨0, q, params, body, scope, cl, none⟩ .none doc pm cdv ctv) ⟨[], []⟩ = pure [])
    (hbody : ∀ (q : Str) (cl : List (Str × Addr)) (A : Around) (outer : List Env) (s : Shared) (H : Hp) (E : XK) (f c' : Addr), Room k (A.deeper (PySem.W.envX q scope s.heap.objs.size f (.ref c') cl)) →
      SE (lamZ X A outer s H E ⟨0, q, params, body, scope, cl, none⟩ f c') (fun cls d _ H => E cls d H) body mb)
    (hdb : (("_law_kind" : Str) == ("__debug__" : Str)) = false := by decide) :
    SE X W (.Call (.Name "_law_kind" p) [.Lambda params body scope lpos] [] pos) (mKind mb) := by
  refine ⟨fun pins s σ H Q I ⟨g0, st, r, pp⟩ => ?_⟩
  let l : LamD := ⟨0, X.env.qual ++ "<lambda>", params, body, scope, cloFrom X.env.cells scope.names [], none⟩
  have made := (pe_lamN (l := l) (pos := lpos) (X := X) TB hcode hmT hu ⟨rfl, hdef⟩ rfl rfl L.cap).run pins s σ H (fun v H2 => ∃ f H1, v = .ref f ∧ ExtT H H1 ∧ Tabs (tbl X.K) H1 ∧ (∀ b o, H1 b = some o → H2 b = some o) ∧ LamAt H2 l f) I
    ⟨r.tb, fun f H1 H2 e t _ ad la _ => ⟨f, H1, rfl, e, t, ad, la⟩⟩
  -- where the lambda stands is told by its making
  refine kind_run' (k := k) F Sg hbd hG hr I hg (wpAny_mono made ?_ fun _ _ z => z) (hdb := hdb)
  rintro u s1 ⟨v, H2, I2, ru, f, H1, rfl, e1, t1, ad, la⟩
  cases ru
  have r1 : R X.K g0 st σ H1 := R.extT r e1 t1
  have ad : Add H1 H2 := ad
  exact ⟨f, rfl, (fun HZ => LamAt HZ l f), _, H2, I2, la, ttk_ok kx (e1.ext.trans ad.ext) (r1.add ad) pp, fun g cdg hr1 W pn xe E p1 p2 tk hW =>
    (pe_actV (i := 0) (l := l) (CellsOk.of I2) L rfl (fun doc pm cdv ctv => hbind _ _ doc pm cdv ctv) tk hW hr1 (fun A outer s H f c' hr2 => hbody _ _ A outer s H E f c' hr2) rfl hva).im fun σZ HZ Q ⟨h1, h2, h3⟩ => ⟨f, h1, h2, h3⟩⟩
end Lk

namespace Lk
open PySem PySem.Spec PyProof.Rows L2 LamX Sm
/-! ### [f(c) for c in cs], where what f does leans on the cells of the def around: the item's rule may use that the def's state held when the block began -/
section
variable {X : Cx} {pins : List (Addr × Obj)} {σ : L2.St} {H : Hp} {s : Shared} {elt tg iter : Expr} {ifs : List Expr} {tt : TT} {scope : Scope} {own : List (Str × Nat)} {pos : Pos} {wi : TI} {g : TG} {te : L2.St → TE}
abbrev blkC (X : Cx) (scope : Scope) (s : Shared) (H : Hp) (fp : List Addr) : Cx := X.blk s H scope (compEnvC scope (cellsFrom (s.heap.objs.size + 1) scope.names (cloFrom X.env.cells scope.names [])) s.heap.objs.size X.env) fp
/-- the block's own start, whatever the iterator keeps for itself -/
theorem own_fp {s3 : Shared} {H3 : Hp} {fp : List Addr} {σ' : L2.St} {H' : Hp} {s' : Shared} (J : Inv (blkC X scope s3 H3 fp) [] σ' H' s') (n : ∀ b ∈ fp, H' b = none) : ∀ b ∈ fp, FpOk (blkC X scope s3 H3 fp) [] H' b :=
  fun b hb => ⟨n b hb, (J.ok.exf b hb).1, J.ok.exfs b hb, Or.inl hb, fun y c => (J.ok.exf b hb).2 y c, fun p hp => (List.not_mem_nil (show p ∈ ([] : List (Addr × Obj)) from hp)).elim⟩
/-- a state of the block between two turns -/
def Mid (X : Cx) (scope : Scope) (s3 : Shared) (H3 : Hp) (fp : List Addr) (σv : L2.St) (tn : Nat → Heap → Prop) (i : Nat) (H' : Hp) (s' : Shared) : Prop := Inv (blkC X scope s3 H3 fp) [] σv H' s' ∧ tn i s'.heap ∧ ∀ b ∈ fp, H' b = none
/-- one turn of the block's loop, from a state of the block to the next one -/
theorem turn_ok {s3 s5 : Shared} {H3 H5 : Hp} {fp : List Addr} {it D : Addr} {tn : Nat → Heap → Prop} {J : It} {i : Nat} {Nx : Hp → Prop} {G : Shared → Prop} {E : Value → Shared → Prop} {vs : List Nat} {t : TE} (hc : X.calm = true) (T : Turn X.prog X.w X.K tg J fp it tn)
    (pg : PG (blkC X scope s3 H3 fp) tg g) (pt : PTs (blkC X scope s3 H3 fp) ifs tt) (pe : PE (blkC X scope s3 H3 fp) elt t) (mid : Mid X scope s3 H3 fp (wipe σ vs) tn i H5 s5) (go : J.go i H5)
    (step : ∀ x H', J.yld i H5 x H' → g x (wipe σ vs) H' fun σ2 H2 => wipe σ2 vs = wipe σ vs ∧ tt σ2 H2 fun b H3 => if b = true then t σ2 H3 fun y H4 => ∃ acc, H4 D = some (.lst acc) ∧ acc.length < sizeLine ∧ Nx (upd H4 D (.lst (acc ++ [y]))) else Nx H3)
    (fin : ∀ s' H', Mid X scope s3 H3 fp (wipe σ vs) tn (i + 1) H' s' → Nx H' → G s') :
    wpAny (model X.prog X.w) X.A (pyNext (.ref it)) (fun r s6 => ∃ v, r = some v ∧ wpAny (model X.prog X.w) X.A (letOwnedTupleGo tg (.ref it) v) (fun _ s7 => wpAny (model X.prog X.w) X.A (assign tg (blkC X scope s3 H3 fp).env v) (fun _ s8 =>
      wpAny (model X.prog X.w) X.A (forIn ifs true fun c r => if r = true then do let ok ← isTrue c (blkC X scope s3 H3 fp).env (eval c (blkC X scope s3 H3 fp).env); pure (ForInStep.yield ok) else pure (ForInStep.yield r)) (fun ok s9 =>
        if ok = true then wpAny (model X.prog X.w) X.A (eval elt (blkC X scope s3 H3 fp).env) (fun x s10 => wpAny (model X.prog X.w) X.A (call (.builtin "list.append") [.ref D, x]) (fun _ s11 => G s11) E s10) E s9 else G s9) E s8) E s7) E s6) E s5 := by
  obtain ⟨I5, at5, none5⟩ := mid
  refine thnF (T.item (blkC X scope s3 H3 fp) rfl rfl rfl hc i [] s5 _ H5 (fun _ _ => False) I5 (own_fp I5 none5) at5 go) ?_
  rintro _ s6 ⟨u, rfl, drawn⟩
  refine ⟨u, rfl, thnF drawn ?_⟩
  rintro _ sA ⟨x, HA, IA, rel, yld, atA, noneA⟩
  -- what the iterator keeps is pinned for the rest of the turn
  have still := T.obj _ _ atA
  have home : ∀ {σB : L2.St} {s' : Shared} {H' : Hp}, wipe σB vs = wipe σ vs → Inv (blkC X scope s3 H3 fp) (pinsAt fp sA.heap) σB H' s' → Nx H' → G s' := fun {σB s' H'} same K nx => by
    have kept : ∀ b ∈ fp, ∃ o, sA.heap.get? b = some o ∧ s'.heap.get? b = some o ∧ H' b = none := fun b hb => (still b hb).imp fun o e => ⟨e.1, (K.pin (b, o) (List.mem_append_right _ (mem_pinsAt hb e.1))).imp id And.left⟩
    refine fin s' H' ⟨Inv.weak (I := Inv.unpinned (pins := []) K) (by rw [← same, wipe_length]) fun j v e => (wipe_some (same ▸ e)).1, T.keep _ _ _ atA fun b hb o e => ?_, fun b hb => ?_⟩ nx
    · obtain ⟨o', e', k, _⟩ := kept b hb
      cases e.symm.trans e'
      exact k
    · obtain ⟨_, _, _, n⟩ := kept b hb
      exact n
  refine thnF (pg.run _ sA _ HA x u _ (IA.pinned (own_fp IA noneA) still) rel (step x HA yld)) ?_
  rintro _ sB ⟨σB, HB, IB, same, tests⟩
  refine thnF (pt.run _ sB σB HB _ IB tests) ?_
  rintro (_ | _) sC ⟨HC, IC, q⟩
  · exact home same IC (by simpa using q)
  · refine thnF (pe.run _ sC σB HC _ IC (by simpa using q)) ?_
    rintro z sD ⟨y, HD, ID, ry, acc, atD, room, nx⟩
    exact app_ok (X := blkC X scope s3 H3 fp) ID atD room ry fun sE IE => home same IE nx
theorem pe_lcI (hc : X.calm = true) (hN : X.N.Nodup) (hi : PI X tg iter wi) (ok : BlkOk X.N X.env.scope scope own) (hg : ∀ (s : Shared) (H : Hp) (fp : List Addr), PG (blkC X scope s H fp) tg g) (ht : ∀ (s : Shared) (H : Hp) (fp : List Addr), PTs (blkC X scope s H fp) ifs tt)
    (he : ∀ (pins : List (Addr × Obj)) (σ : L2.St) (s : Shared) (H : Hp) (fp : List Addr), Inv X pins σ H s → (∀ b ∈ fp, FpOk X pins H b) → PE (blkC X scope s H fp) elt (te σ)) (hs : ∀ x, foldedSetIterable iter X.env x = pure x := by intro _; rfl) :
    PE X (.ListComp elt [⟨tg, iter, ifs, 0⟩] scope pos) (fun σ H Q => tLc wi g tt (te σ) (own.map (·.2)) σ H Q) := by
  constructor
  intro pins s σ H Q I h
  rw [eval_ListComp]
  refine wpAny_comprehension_free (use := none) rfl hs (closure_ok fun y hy e => (ok.free y hy e).elim (fun k => I.ok.has _ (.inl k)) fun k => I.ok.has _ (.inr k)) ok.kind (fun y hy e => by rw [ok.uniq y hy, e]) (thn (hi.run pins s σ H _ I h) fun _ _ z => thn z ?_)
  rintro _ s2 ⟨it, fp, tn, J, H2, rfl, I2, T, at2, fp2, q⟩
  -- the new list at D
  have new : H2 s2.heap.objs.size = none := I2.hok.fresh (Nat.le_refl _)
  obtain ⟨W, ⟨m0, w0⟩, turn⟩ := q _ new
  generalize hs3 : ({ s2 with heap := s2.heap.push { cls := .type "list", data := .seq ([] : List Value).toArray } } : Shared) = s3
  have h3 : s3.heap = s2.heap.push { cls := .type "list", data := .seq ([] : List Value).toArray } := hs3 ▸ rfl
  have keep3 : ∀ b o, s2.heap.get? b = some o → s3.heap.get? b = some o := fun b o e => h3 ▸ Heap.get?_push_of_some _ e
  have I3 : Inv X pins σ (upd H2 s2.heap.objs.size (.lst [])) s3 := hs3 ▸ I2.laid (t' := s2.toks) (fun b o => Heap.get?_push_of_some _) (Nat.le_refl _) ⟨Nat.zero_le _, [], 0, .nil, Heap.get?_push_size _ rfl⟩
  have fp3 : ∀ b ∈ fp, FpOk X pins (upd H2 s2.heap.objs.size (.lst [])) b ∧ b < s3.heap.objs.size := fun b hb => by
    have lt := Heap.lt_size (T.obj _ _ at2 b hb).choose_spec.1
    exact ⟨⟨(upd_ne (Nat.ne_of_lt lt)).trans (fp2 b hb).1, (fp2 b hb).2⟩, by rw [h3, Heap.size_push]; exact Nat.lt_succ_of_lt lt⟩
  have at3 : tn 0 s3.heap := T.keep _ _ _ at2 fun b _ o e => keep3 b o e
  refine wpAny_newObj_type (newEnv_comp ?_) (by size_fits)
  rw [hs3]
  generalize s2.heap.objs.size = D at I3 fp3 w0 turn ⊢
  generalize upd H2 D (.lst []) = H3 at I3 fp3 w0
  -- the block's frame
  have pg := hg s3 H3 fp
  have pt := ht s3 H3 fp
  have pe := he pins σ s3 H3 fp I3 fun b hb => (fp3 b hb).1
  have mid0 : Mid X scope s3 H3 fp (wipe σ (own.map (·.2))) tn 0 H3 { s3 with heap := pushCells (s3.heap.push { cls := .type "dict", data := .dict #[] }) scope.names } :=
    ⟨block_start I3 ok hN fp3, T.keep _ _ _ at3 fun b _ o e => pushCells_keeps _ _ _ _ (Heap.get?_push_of_some _ e), fun b hb => (fp3 b hb).1.1⟩
  refine codeAny_compStart_list ?loop (T.self X.A 0 _ _ _ mid0.2.1 ?loop)
  refine compLoop_any (fun n s' => ∃ i H', Mid X scope s3 H3 fp (wipe σ (own.map (·.2))) tn i H' s' ∧ W i n H') ?_ m0 ⟨0, H3, mid0, w0⟩
  · rintro n s5 ⟨i, H5, mid, w5⟩
    obtain ⟨stop, over⟩ | ⟨go, Nx, hNx, step⟩ := turn i n H5 w5
    · refine thnF (T.done (blkC X scope s3 H3 fp) rfl rfl rfl hc i [] s5 _ H5 (fun _ _ => False) mid.1 (own_fp mid.1 mid.2.2) mid.2.1 stop) ?_
      rintro _ s6 ⟨rfl, I6⟩
      -- back in the def's frame
      have I7 : Inv X pins σ H5 s6 := I3.call' (ch := fp) I6.os I6.base I6.hok I6.bare fun b hb => let ⟨z, _⟩ := fp3 b hb; ⟨z.2.2.2.1, z.2.1, z.2.2.2.2.1, z.2.2.2.2.2⟩
      obtain ⟨m, ns, _⟩ := I6.loc
      obtain ⟨n0, n1, n2, n3, n4, n5⟩ := I3.fpOk (Nat.le_refl _) (show H5 s3.heap.objs.size = none from I6.free)
      exact ⟨m, ns, fun h2 sb => ⟨.ref D, H5, I7.turned (t' := s6.toks) (fun b o hb => (sb.2 b hb).trans) n0 n1 n3 n4 n5, rfl, over⟩⟩
    · refine wpAny_mono (turn_ok (G := fun s' => ∃ m, m < n ∧ ∃ i H', Mid X scope s3 H3 fp (wipe σ (own.map (·.2))) tn i H' s' ∧ W i m H') (E := notedBy (model X.prog X.w) X.A (blkC X scope s3 H3 fp).env fun e s' => compPost (model X.prog X.w) X.A X.xe none (EP X pins σ Q) (.ref D) s3.heap.objs.size (.error e) s') hc T pg pt pe mid go step ?_) ?_ fun _ _ z => z
      · exact fun s' H' mid' nx => (hNx H' nx).imp fun m z => ⟨z.1, i + 1, H', mid', z.2⟩
      · rintro _ s6 ⟨v, rfl, rest⟩
        exact rest
end
end Lk

namespace Lk
open PySem PySem.Spec PyProof.Rows L2 LamX Sm
/-! ### [x(c) for c in cs], cs: lambdas; x tells the kind of what a lambda raises -/
theorem tLc_w {wi : TI} {g : TG} {tt : TT} {te : TE} {vs : List Nat} {σ : L2.St} {H : Hp} {Q : VK} : tLc wi g tt (fun σz Hz P => wipe σz vs = wipe σ vs ∧ te σz Hz P) vs σ H Q = tLc wi g tt te vs σ H Q := by
  have e : ∀ (Nx : Hp → Prop) (D : Addr), (fun (σ2 : L2.St) (H2 : Hp) => wipe σ2 vs = wipe σ vs ∧ tt σ2 H2 fun b H3 => if b = true then (wipe σ2 vs = wipe σ vs ∧ te σ2 H3 fun y H4 => ∃ acc, H4 D = some (.lst acc) ∧ acc.length < sizeLine ∧ Nx (upd H4 D (.lst (acc ++ [y])))) else Nx H3)
      = fun (σ2 : L2.St) (H2 : Hp) => wipe σ2 vs = wipe σ vs ∧ tt σ2 H2 fun b H3 => if b = true then (te σ2 H3 fun y H4 => ∃ acc, H4 D = some (.lst acc) ∧ acc.length < sizeLine ∧ Nx (upd H4 D (.lst (acc ++ [y])))) else Nx H3 := by
    intro Nx D
    funext σ2 H2
    by_cases hw : wipe σ2 vs = wipe σ vs
    · simp only [hw, true_and]
    · simp only [hw, false_and]
  unfold tLc
  simp only [e]
section
variable {X : Cx} {W : WX} {elt tg iter : Expr} {ifs : List Expr} {scope : Scope} {own : List (Str × Nat)} {pos : Pos} {mi : M (List Val)} {gt : T → M Unit} {ct : M Bool} {el : M T}
theorem s_compI (hc : X.calm = true) (hN : X.N.Nodup) (hi : SI X W tg iter mi) (ok : BlkOk X.N X.env.scope scope own)
    (hg : ∀ (s : Shared) (H : Hp) (fp : List Addr), SG (blkC X scope s H fp) W0 (inF (own.map (·.2))) tg gt) (ht : ∀ (s : Shared) (H : Hp) (fp : List Addr), sTs (blkC X scope s H fp) W0 ifs ct)
    (he : ∀ (pins : List (Addr × Obj)) (σ : L2.St) (s : Shared) (H : Hp) (fp : List Addr), Inv X pins σ H s → (∀ b ∈ fp, FpOk X pins H b) → PE (blkC X scope s H fp) elt (fun σz Hz P => wipe σz (own.map (·.2)) = wipe σ (own.map (·.2)) ∧ sE X.K X.mg W0 el σz Hz P))
    (hs : ∀ x, foldedSetIterable iter X.env x = pure x := by intro _; rfl) :
    SE X W (.ListComp elt [⟨tg, iter, ifs, 0⟩] scope pos) (mComp (own.map (·.2)) mi gt ct el) :=
  (pe_lcI (te := fun σ σz Hz P => wipe σz (own.map (·.2)) = wipe σ (own.map (·.2)) ∧ sE X.K X.mg W0 el σz Hz P) hc hN hi.ex ok hg ht he hs).im fun σ H Q h => by
    rw [tLc_w]
    exact comp_ok h
end
/-! ### lambdas as values -/
def mLam (LD : Nat → LamD) (k : Nat) : M T := fun st => .ok (.val (.lam { LD k with id := k })) st
theorem lamV_ok {X : Cx} {W : WX} {l : LamD} {e : Expr} (h : PE X e (tLamV (tbl X.K) l)) : SE X W e (fun st => .ok (.val (.lam l)) st) := h.im fun σ H Q ⟨g, st, r, p⟩ => ⟨r.tb, fun f H1 H2 e1 t1 n1 ad la _ => by
  have ad : Add H1 H2 := ad
  have r1 : R X.K g st σ H1 := R.extT r e1 t1
  refine p g (.ref f) H2 (e1.ext.trans ad.ext) (r1.add ad) ?_
  show VR _ _ _ _ _
  unfold VR
  exact ⟨f, rfl, la⟩⟩
open Classical in
noncomputable def mKindAt (i n : Nat) (LD : Nat → LamD) (mbs : Nat → M T) : M T := fun st => match st.sl[i]? with
  | some (.val (.lam l)) => if l.id < n ∧ l = { LD l.id with id := l.id } then mKind (mbs l.id) st else .bad
  | _ => .bad
theorem kindAt_ev {i n k : Nat} {LD : Nat → LamD} {mbs : Nat → M T} {st : MS} (h : st.sl[i]? = some (.val (.lam { LD k with id := k }))) (hk : k < n) : mKindAt i n LD mbs st = mKind (mbs k) st := by
  unfold mKindAt
  rw [h]
  exact if_pos ⟨hk, rfl⟩
theorem CellsOk.slots {X : Cx} {σ σ' : L2.St} {H : Hp} {s : Shared} (C : CellsOk X σ H s) (hl : σ'.length = σ.length) (h : ∀ (i : Nat) (y : Str), X.N[i]? = some y → (X.env.scope.names.lookup y = some .cell ∨ X.env.scope.names.lookup y = some .free) → σ'[i]? = σ[i]?) : CellsOk X σ' H s where
  inj := C.inj
  any := C.any
  val := fun i y v e1 e2 e3 => C.val i y v e1 (by rw [← h i y e1 e3]; exact e2) e3
  has := C.has
  len := hl.trans C.len
theorem s_kindAt {X : Cx} {pins : List (Addr × Obj)} {σ : L2.St} {H : Hp} {s : Shared} {fp : List Addr} {i n k : Nat} {vs : List Nat} {pg : Arguments} {bg : List Stmt} {sg scope : Scope} {p pc pos : Pos} {LD : Nat → LamD} {mbs : Nat → M T} {cn : Str} (kx : ExK X.K X.mg)
    (F : ∃ g fd, X.mg "_law_kind" = some (.ref g) ∧ FunD X.K "_law_kind" "_law_kind" pg bg sg [] [] g fd) (Sg : FnScope nKind ["_law_call"] sg) (hbd : ∀ {f fd}, FunD X.K "_law_kind" "_law_kind" pg bg sg [] [] f fd → L2.Binds X.K fd ["_law_call"] [])
    (hG : GivesK X.prog X.w X.K X.mg X.base X.A X.stack sg bg) (hva : Vis sg "_law_call") (hr : Room (k + 2) X.A) (hg : Gl (blkC X scope s H fp) "_law_kind")
    (I : Inv X pins σ H s) (hfp : ∀ b ∈ fp, FpOk X pins H b) (hvs : ∀ (j : Nat) (y : Str), X.N[j]? = some y → (X.env.scope.names.lookup y = some .cell ∨ X.env.scope.names.lookup y = some .free) → j ∉ vs)
    (hN : X.N[i]? = some cn) (hv : Vis (blkC X scope s H fp).env.scope cn) (hd : (cn == ("__debug__" : Str)) = false) (hcd : (cn == ("__classdict__" : Str)) = false)
    (hL : ∀ k < n, LamW X.N X.env.scope (LD k).scope ∧ (LD k).cl = cloFrom X.env.cells (LD k).scope.names [] ∧ LamBind { LD k with id := k })
    (hbody : ∀ j < n, ∀ (A : Around) (outer : List Env) (s : Shared) (H : Hp) (E : XK) (f c' : Addr), Room k (A.deeper (PySem.W.envX (LD j).q (LD j).scope s.heap.objs.size f (.ref c') (LD j).cl)) →
      SE (lamZ X A outer s H E { LD j with id := j } f c') (fun cls d _ H => E cls d H) (LD j).body (mbs j))
    (hdb : (("_law_kind" : Str) == ("__debug__" : Str)) = false := by decide) :
    PE (blkC X scope s H fp) (.Call (.Name "_law_kind" p) [.Name cn pc] [] pos) (fun σz Hz P => wipe σz vs = wipe σ vs ∧ sE X.K X.mg W0 (mKindAt i n LD mbs) σz Hz P) := by
  refine ⟨fun pz sz σz Hz Q Iz h => ?_⟩
  obtain ⟨hw, g0, st, r, pp⟩ := h
  unfold mKindAt at pp
  split at pp
  case h_2 => exact pp.elim
  rename_i l hl
  split at pp
  case isFalse => exact pp.elim
  rename_i hlk
  obtain ⟨hln, hle⟩ := hlk
  generalize l.id = j at hln hle pp
  subst hle
  obtain ⟨wv, hσ, hV⟩ := r.vl i _ hl
  unfold VR at hV
  obtain ⟨f, rfl, la⟩ := hV
  obtain ⟨L, hcl, hB⟩ := hL j hln
  refine kind_run' (X := blkC X scope s H fp) (k := k) F Sg hbd hG hr Iz hg (wpAny_mono ((pe_var (X := blkC X scope s H fp) (pos := pc) (i := i) hN hv hd hcd).run pz sz σz Hz (fun v H1 => v = .ref f ∧ H1 = Hz) Iz ⟨.ref f, hσ, rfl, rfl⟩) ?_ fun _ _ z => z) (hdb := hdb)
  rintro u s1 ⟨v, H1, I1, ru, rfl, rfl⟩
  cases ru
  -- the cells of the def around are as they were when the block began
  have un : Un (frs X.stack) fp H H1 s.heap s1.heap := I1.base
  have C1 : CellsOk X σz H1 s1 := ((CellsOk.of I).later un fun y a e hm => (hfp a hm).2.2.2.2.1 y a e rfl).slots (by rw [← wipe_length σz vs, hw, wipe_length]) fun j y e1 e2 => by
    have hj := hvs j y e1 e2
    rw [← wipe_out (σ := σz) hj, hw, wipe_out hj]
  exact ⟨f, rfl, (fun HZ => LamAt HZ { LD j with id := j } f), _, H1, I1, la, ttk_ok kx (Ext.refl (g := g0) (H := H1)) r pp, fun g cdg hr1 W pn xe E p1 p2 tk hW =>
    (pe_actV (X := X) (i := 0) (l := { LD j with id := j }) C1 L hcl hB tk hW hr1 (fun A outer s H f c' hr2 => hbody j hln A outer s H E f c' hr2) rfl hva).im fun σZ HZ Q ⟨h1, h2, h3⟩ => ⟨f, h1, h2, h3⟩⟩
end Lk

namespace Lk
open PySem PySem.Spec PyProof.Rows L2 LamX Sm
/-! ### raise C("text"), C an own class without own __init__ -/
abbrev veBm : List Value := [.type "ValueError", .type "Exception", .type "BaseException", .type "object"]
structure RsT (K : PySem.W.Frag) (mg : Str → Option Value) (C : Str) : Prop where
  mgC : mg C = some (.ref (He.ga K C))
  exc : PySem.W.excIn K (He.ga K C) veBm "ValueError.__new__" = true
  kp : PySem.W.keepIn K (.ref (He.ga K C)) = true
  sub : PySem.W.subIn K (.ref (He.ga K C)) (.type "BaseException") = some true
  ty : PySem.W.typeIn K (.ref (He.ga K C)) = some (.type "type")
def rsB (K : PySem.W.Frag) (C : Str) : Bool := decide (PySem.W.nsIn K PySem.mainGlobals C = some (some (.ref (He.ga K C)))) && (PySem.W.excIn K (He.ga K C) veBm "ValueError.__new__" && (PySem.W.keepIn K (.ref (He.ga K C)) &&
  (decide (PySem.W.subIn K (.ref (He.ga K C)) (.type "BaseException") = some true) && decide (PySem.W.typeIn K (.ref (He.ga K C)) = some (.type "type")))))
theorem rsB_ok {K : PySem.W.Frag} {h : Heap} {mg : Str → Option Value} {C : Str} (X : K.In h) (G : h.Ns PySem.mainGlobals mg) (e : rsB K C = true) : RsT K mg C := by
  unfold rsB at e
  simp only [Bool.and_eq_true, decide_eq_true_eq] at e
  obtain ⟨h1, h2, h3, h4, h5⟩ := e
  exact ⟨PySem.W.mg_of X G h1, h2, h3, h4, h5⟩
def mRaise (C : Str) : M Fl := fun st => .exc ⟨C, []⟩ st
theorem k_raiseT {X : Cx} {W : WX} {C m : Str} {j : Nat} {p p2 p3 pos : Pos} (hc : X.calm = true) (tk : Takes X W) (F : RsT X.K X.mg C) (hg : Gl X C) (hdb : (C == ("__debug__" : Str)) = false := by decide) :
    SS X W (.Raise (some (.Call (.Name C p) [.Constant (.str m) j p2] [] p3)) none pos) (mRaise C) :=
  (ps_raise hc tk (pmk_own PySem.F.excBase_ValueError F.exc F.mgC F.kp (raises_own F.sub F.ty) hg hdb)).im fun D σ H ⟨g, st, r, p⟩ => p g _ none σ H Ext.refl r ⟨F.mgC, rfl⟩
/-! ### the law, its M-term by its lambdas -/
def spMA (K : PySem.W.Frag) (mg : Str → Option Value) (n : Nat) (mf : (Nat → LamD) → MF) : Sp := fun ws H Q E => ws.length = n ∧ ∀ LD, spM K mg n (mf LD) ws H Q E
theorem law_okA {P : Program} {w : World} {K : PySem.W.Frag} {mg : Str → Option Value} {base : Heap} {params : Arguments} {body : List Stmt} {scope : Scope} {dvs : List V} {kws : List (Str × V)} {fd : FuncData} {N ps : List Str} {k : Nat} {m : (Nat → LamD) → M Fl}
    (F : FunD K "law" "law" params body scope dvs kws (He.ga K "law") fd) (S : FnScope N ps scope)
    (hb : ∀ (cdv : Value) (A : Around) (outer : List Env) (s : Shared) (H : Hp) (E : XK) {f : Addr}, cdv = .ref (He.codeOf K ("law", none)) → Room k (A.deeper (PyProof.Rows.envOfC "law" scope s.heap.objs.size f cdv)) →
      Takes (cxOf (L2.CX P w) P w K mg base N "law" scope f cdv A outer s H E) (fun cls d _ H => E cls d H) →
      ∃ LD, SSs (cxOf (L2.CX P w) P w K mg base N "law" scope f cdv A outer s H E) (fun cls d _ H => E cls d H) body (m LD)) : FnOk P w K mg base (L2.CX P w) (k + 1) (He.ga K "law") fd ps (spMA K mg ps.length fun LD => mBody N.length (m LD)) := by
  have hc := FunD.code F
  obtain ⟨oc, od, dV, kV, doc, pm, an, cdv, ct, osl, rfl, lk, hcd, _, _⟩ := F.ex
  refine fn_of lk hcd S (fun vs H Q E h => h.1) fun A outer s H vs Q E hr h => ?_
  obtain ⟨LD, hs⟩ := hb cdv A outer s H E (f := He.ga K "law") hc hr (L2.takes_of rfl rfl rfl rfl)
  exact ⟨_, hs, body_ok (h.2 LD)⟩
theorem law_spA {K : PySem.W.Frag} {mg : Str → Option Value} {mf : (Nat → LamD) → MF} {H : Hp} {a : Addr} {ns : List Int} (ht : LamX.Tabs (tbl K) H) (hS : SqL K H a (ns.map V.int)) (h : ∀ LD, ∃ s, mf LD [.scr (ns.map .int)] [] = .ok (.val (.bl true)) s) :
    spMA K mg 1 mf [.ref a] H (fun v _ => v = .bl true) fun _ _ _ => False := ⟨rfl, fun LD => law_sp ht hS (h LD)⟩
theorem lamBind_0 {l : LamD} (e : l.dv = none) (h : ∀ doc pm cdv ctv : Value, bindArgs (lamFn l .none doc pm cdv ctv) ⟨[], []⟩ = pure []) : LamBind l := by
  unfold LamBind
  rw [e]
  exact h
theorem lamBind_1 {l : LamD} {i : Int} {a : Str} (e : l.dv = some i) (ha : l.scope.names.lookup a = some .local) (h : ∀ (doc pm cdv ctv : Value) (t : Addr), ∃ k, bindArgs (lamFn l (.ref t) doc pm cdv ctv) ⟨[], []⟩ = seqItems? (.ref t) >>= k ∧ ∀ u, k (some #[u]) = pure [(a, u)]) : LamBind l := by
  unfold LamBind
  rw [e]
  exact ⟨a, ha, h⟩
def hvsB (N : List Str) (sc : Scope) (vs : List Nat) : Bool := (List.range N.length).all fun j => !vs.contains j || !(decide (sc.names.lookup (N.getD j "") = some .cell) || decide (sc.names.lookup (N.getD j "") = some .free))
theorem hvs_by {N : List Str} {sc : Scope} {vs : List Nat} (h : hvsB N sc vs = true) : ∀ (j : Nat) (y : Str), N[j]? = some y → (sc.names.lookup y = some .cell ∨ sc.names.lookup y = some .free) → j ∉ vs := fun j y e hy hm => by
  obtain ⟨hj, e2⟩ := List.getElem?_eq_some_iff.mp e
  unfold hvsB at h
  have := List.all_eq_true.mp h j (List.mem_range.mpr hj)
  have eg : N.getD j "" = y := by
    rw [List.getD_eq_getElem?_getD, e]; rfl
  rw [eg] at this
  simp only [Bool.or_eq_true, Bool.not_eq_true', Bool.or_eq_false_iff, decide_eq_false_iff_not] at this
  rcases this with q | ⟨q1, q2⟩
  · rw [List.contains_iff_mem.mpr hm] at q; cases q
  · rcases hy with z | z
    · exact q1 z
    · exact q2 z
/-! ### what ends in an exception -/
def wpE {α : Type} (m : M α) (E : Exc → MS → Prop) (st : MS) : Prop := match m st with
  | .exc e s => E e s
  | _ => False
section
variable {α β : Type} {E : Exc → MS → Prop} {st : MS}
theorem wpE_raise {C : Str} (h : E ⟨C, []⟩ st) : wpE (mRaise C) E st := h
theorem wpE_bind2 {m : M α} {k : α → M β} {a : α} {s : MS} (h : m st = .ok a s) (hk : wpE (k a) E s) : wpE (fun st => (m st).bind k) E st := by
  unfold wpE
  dsimp only
  rw [h]
  exact hk
theorem wpE_bind1 {m : M α} {k : α → M β} (h : wpE m E st) : wpE (fun st => (m st).bind k) E st := by
  unfold wpE at h ⊢
  split at h
  · rename_i e s q
    dsimp only
    rw [q]
    exact h
  · exact h.elim
end
section
variable {X : Cx} {W : WX} {a : Addr} {oe : Obj} {d : Option Addr} {pn : List (Addr × Obj)} {i : Nat} {en C Dn : Str} {p pe pD pos : Pos}
theorem s_isEC (kx : ExK X.K X.mg) (hC : C ∈ kCls) (hD : Dn ∈ kCls) (hz : Zc (.ref (He.ga X.K C)) d oe) (hf : ∃ vs, oe.data = .fields vs) (hgD : Gl X Dn) (hdD : (Dn == ("__debug__" : Str)) = false) (hgi : Gl X "isinstance") (hmi : X.mg "isinstance" = none)
    (hbi : bootBuiltins "isinstance" = some (.builtin "isinstance")) (hN : X.N[i]? = some en) (hv : Vis X.env.scope en) (hd : (en == ("__debug__" : Str)) = false) (hcd : (en == ("__classdict__" : Str)) = false) :
    SE (X.suite a ((a, oe) :: pn)) W (.Call (.Name "isinstance" p) [.Name en pe, .Name Dn pD] [] pos) (mIsE i a d (isC C Dn)) :=
  s_isE (cv := .ref (He.ga X.K Dn)) (cu := .ref (He.ga X.K Dn)) (kx.xc C hC) hz hf (pe_glob (X := X.suite a ((a, oe) :: pn)) (v := .ref (He.ga X.K Dn)) hgD (kx.mgC Dn hD) rfl hdD) (fun u h => h) (kx.kit C hC Dn hD) hgi hmi hbi hN hv hd hcd
theorem s_isEV (kx : ExK X.K X.mg) (hC : C ∈ kCls) (hz : Zc (.ref (He.ga X.K C)) d oe) (hf : ∃ vs, oe.data = .fields vs) (hgD : Gl X "ValueError") (hmV : X.mg "ValueError" = none) (hbV : bootBuiltins "ValueError" = some (.type "ValueError")) (hgi : Gl X "isinstance") (hmi : X.mg "isinstance" = none)
    (hbi : bootBuiltins "isinstance" = some (.builtin "isinstance")) (hN : X.N[i]? = some en) (hv : Vis X.env.scope en) (hd : (en == ("__debug__" : Str)) = false) (hcd : (en == ("__classdict__" : Str)) = false) :
    SE (X.suite a ((a, oe) :: pn)) W (.Call (.Name "isinstance" p) [.Name en pe, .Name "ValueError" pD] [] pos) (mIsE i a d true) :=
  s_isE (cv := .ty "ValueError") (cu := .type "ValueError") (kx.xc C hC) hz hf (pe_bltn (X := X.suite a ((a, oe) :: pn)) (v := .ty "ValueError") hgD hmV hbV rfl) (fun u h => h) (kx.kv C hC) hgi hmi hbi hN hv hd hcd
theorem s_xfC {f : Str} (kx : ExK X.K X.mg) (hC : C ∈ kCls) (hF : f ∈ kFs) (hz : Zc (.ref (He.ga X.K C)) d oe) (hf : ∃ vs, oe.data = .fields vs) (hb : attributeBase (.Name en pe) f X.env (eval (.Name en pe) X.env) = eval (.Name en pe) X.env)
    (hN : X.N[i]? = some en) (hv : Vis X.env.scope en) (hd : (en == ("__debug__" : Str)) = false) (hcd : (en == ("__classdict__" : Str)) = false) : SE (X.suite a ((a, oe) :: pn)) W (.Attribute (.Name en pe) f pos) (mXf i a d f) :=
  s_xf (kx.xc C hC) (kx.no C hC f hF) hz hf hb hN hv hd hcd
end
/-! ### the lambdas of a def, found in its text -/
def forB : Stmt → List Stmt
  | .For _ _ b _ _ => b
  | _ => []
def ifB : Stmt → List Stmt
  | .If _ b _ _ => b
  | _ => []
def asgV : Stmt → Expr
  | .Assign _ v _ => v
  | _ => .Constant .none 0 ⟨0, 0, 0, 0⟩
def lstE : Expr → List Expr
  | .List es _ => es
  | _ => []
def lamP : Expr → Arguments
  | .Lambda p _ _ _ => p
  | _ => ⟨[], [], none, [], [], none, []⟩
def lamB : Expr → Expr
  | .Lambda _ b _ _ => b
  | e => e
def lamS : Expr → Scope
  | .Lambda _ _ s _ => s
  | _ => default
def lamPos : Expr → Pos
  | .Lambda _ _ _ p => p
  | _ => ⟨0, 0, 0, 0⟩
def mkL (k : Nat) (q : Str) (e : Expr) (cells : List (Str × Addr)) (dv : Option Int) : LamD := ⟨k, q, lamP e, lamB e, lamS e, cloFrom cells (lamS e).names [], dv⟩
section
variable {X : Cx} {W : WX} {c P : Addr} {e : Expr} {pos : Pos}
theorem s_lamN (LD : Nat → LamD) (k : Nat) (TB : TabB X.base X.mg c P) (hcode : X.env.code = .ref c) (hm : (P, X.env.qual ++ "<lambda>") ∈ tbl X.K) (hu : ∀ p ∈ tbl X.K, p.1 = P → p.2 = X.env.qual ++ "<lambda>")
    (he : e = .Lambda (LD k).params (LD k).body (LD k).scope pos) (hd : (LD k).dv = none) (hdef : defaultsOf (LD k).params X.env = ([], [])) (hq : (LD k).q = X.env.qual ++ "<lambda>") (hcl : (LD k).cl = cloFrom X.env.cells (LD k).scope.names []) (L : LamW X.N X.env.scope (LD k).scope) :
    SE X W e (mLam LD k) := by
  subst he
  exact lamV_ok (pe_lamN (l := { LD k with id := k }) TB hcode hm hu ⟨hd, hdef⟩ hq hcl L.cap)
theorem s_lamI (LD : Nat → LamD) (k : Nat) {i : Int} {j : Nat} {p : Pos} (TB : TabB X.base X.mg c P) (hcode : X.env.code = .ref c) (hm : (P, X.env.qual ++ "<lambda>") ∈ tbl X.K) (hu : ∀ p ∈ tbl X.K, p.1 = P → p.2 = X.env.qual ++ "<lambda>")
    (he : e = .Lambda (LD k).params (LD k).body (LD k).scope pos) (hd : (LD k).dv = some i) (hdef : defaultsOf (LD k).params X.env = ([eval (.Constant (.int i) j p) X.env], [])) (hq : (LD k).q = X.env.qual ++ "<lambda>") (hcl : (LD k).cl = cloFrom X.env.cells (LD k).scope.names []) (L : LamW X.N X.env.scope (LD k).scope) :
    SE X W e (mLam LD k) := by
  subst he
  exact lamV_ok (pe_lamI (l := { LD k with id := k }) TB hcode hm hu ⟨hd, hdef⟩ hq hcl L.cap)
end
end Lk

namespace Lk
open PySem PySem.Spec PyProof.Rows L2 LamX Sm
/-! ### [e for x in xs for y in ys] -/
def cloop2 (vs vs1 : List Nat) (gt : T → M Unit) (ct : M Bool) (mi1 : M (List Val)) (gt1 : T → M Unit) (ct1 : M Bool) (el : M T) : List Val → M (List Val)
  | [] => fun st => .ok [] st
  | x :: xs => fun st => (gt (.val x) { st with sl := wipeS st.sl vs }).bind fun _ st1 => (ct st1).bind fun b st2 => if b = true then (mi1 st2).bind fun ys st3 => (cloop vs1 gt1 ct1 el ys st3).bind fun zs st4 => (cloop2 vs vs1 gt ct mi1 gt1 ct1 el xs st4).bind fun ws st5 => .ok (zs ++ ws) st5
    else cloop2 vs vs1 gt ct mi1 gt1 ct1 el xs st2
def mComp2 (vs vs1 : List Nat) (mi : M (List Val)) (gt : T → M Unit) (ct : M Bool) (mi1 : M (List Val)) (gt1 : T → M Unit) (ct1 : M Bool) (el : M T) : M T := fun st => (mi st).bind fun xs st1 => (noexc (cloop2 vs vs1 gt ct mi1 gt1 ct1 el xs st1)).bind fun ys st2 => if ys.length ≤ 16777216 then .ok (.own ys) { st2 with sl := unwipe st1.sl st2.sl vs } else .bad
theorem wipe_sub {vs vs1 : List Nat} {σ σ' : L2.St} (hs : ∀ i ∈ vs1, i ∈ vs) (h : wipe σ' vs1 = wipe σ vs1) : wipe σ' vs = wipe σ vs := by
  have hl : σ'.length = σ.length := by rw [← wipe_length σ' vs1, h, wipe_length]
  apply List.ext_getElem?
  intro i
  by_cases hi : i ∈ vs
  · by_cases h2 : i < σ.length
    · rw [wipe_in hi (by rw [hl]; exact h2), wipe_in hi h2]
    · rw [List.getElem?_eq_none (by rw [wipe_length, hl]; omega), List.getElem?_eq_none (by rw [wipe_length]; omega)]
  · have h1 : i ∉ vs1 := fun z => hi (hs i z)
    rw [wipe_out hi, wipe_out hi, ← wipe_out (vs := vs1) h1, h, wipe_out h1]
/-! a source that goes on while lists of ours change, beside the slots' own ones -/
def OkO (g : G) (H : Hp) (O : Nat → Option Addr) : Prop := ∀ i a, O i = some a → ¬ g.S a ∧ ∃ l, H a = some (.lst l)
def SrcX (K : PySem.W.Frag) (g : G) (H : Hp) (J : It) (xs : List Val) : Prop := ∀ O, OkO g H O → SrcOk K { g with O := O } H J xs
def sIX (K : PySem.W.Frag) (mg : Str → Option Value) (W : WX) (m : M (List Val)) : TI := fun σ H Rr => ∃ g st, R K g st σ H ∧ match m st with
  | .ok xs st' => ∀ g' H' J, Ext g H g' H' → R K g' st' σ H' → SrcX K g' H' J xs → Rr J H'
  | .exc e st' => ∀ g' cls d H', Ext g H g' H' → R K g' st' σ H' → XR K mg g' H' e cls d → W cls d σ H'
  | .bad => False
theorem wf_O {g : G} {H : Hp} {O : Nat → Option Addr} (w : Wf g H) (h : OkO g H O) : Wf { g with O := O } H :=
  ⟨w.rt, fun i a e => by
    obtain ⟨_, l, q⟩ := h i a e
    rw [q]; exact True.intro, w.sr, fun i a e => (h i a e).1, w.sa, w.rx, fun i a e => by
    obtain ⟨_, l, q⟩ := h i a e
    exact noX_lst q⟩
theorem i_seqX {X : Cx} {W : WX} {tg e : Expr} {m : M T} (he : SE X W e m) : PI X tg e (sIX X.K X.mg W (mItems m)) := he.isIt.im fun σ H Rr ⟨g, st, r, p⟩ => ⟨g, st, r, by
  unfold mItems at p
  cases hm : m st with
  | bad => rw [hm] at p; exact p.elim
  | exc x s => rw [hm] at p; exact p
  | ok t s =>
    rw [hm] at p
    intro g1 w H1 e1 r1 q1
    simp only [Out.bind, itemsT] at p
    cases h1 : mTake t s with
    | exc x s => exact (take_noexc h1).elim
    | bad => rw [h1] at p; exact p.elim
    | ok v s2 =>
      rw [h1] at p
      obtain ⟨g2, e2, r2, v2, _, _⟩ := take_ok e1 r1 q1.tw h1
      cases v with
      | tup vs =>
        unfold VR at v2
        obtain ⟨a, ws, rfl, k2, k3⟩ := v2
        exact ⟨a, rfl, .inl ⟨⟨ws, SqT.of k2⟩, p g2 H1 _ e2 r2 fun O hO => .tup (wf_O r2.wf hO) (.inl k2) (k3.O O)⟩⟩
      | ktup vs =>
        unfold VR at v2
        obtain ⟨a, ws, rfl, k2, k3⟩ := v2
        exact ⟨a, rfl, .inl ⟨⟨ws, .inr k2⟩, p g2 H1 _ e2 r2 fun O hO => .tup (wf_O r2.wf hO) (.inr k2) (k3.O O)⟩⟩
      | lst vs =>
        unfold VR at v2
        obtain ⟨a, ws, rfl, k1, k2, k3⟩ := v2
        exact ⟨a, rfl, .inr ⟨⟨ws, SqL.of k2⟩, p g2 H1 _ e2 r2 fun O hO => .lst (wf_O r2.wf hO) (.inl ⟨k1, .inl k2⟩) (k3.O O)⟩⟩
      | scr vs =>
        unfold VR at v2
        obtain ⟨a, ws, rfl, k2, k3⟩ := v2
        exact ⟨a, rfl, .inr ⟨⟨ws, k2.sq⟩, p g2 H1 _ e2 r2 fun O hO => .lst (wf_O r2.wf hO) k2 (k3.O O)⟩⟩
      | _ => exact p.elim⟩
section
variable {K : PySem.W.Frag} {mg : Str → Option Value} {W : WX} {vs vs1 : List Nat} {mi mi1 : M (List Val)} {gt gt1 : T → M Unit} {ct ct1 : M Bool} {el : M T} {σ : L2.St} {H : Hp} {Q : VK}
def Pc2 (K : PySem.W.Frag) (mg : Str → Option Value) (W : WX) (vs vs1 : List Nat) (gt : T → M Unit) (ct : M Bool) (mi1 : M (List Val)) (gt1 : T → M Unit) (ct1 : M Bool) (el : M T) (s1 : MS) (g : G) (H : Hp) (σ : L2.St) (Q : VK) (acc rest : List Val) (s : MS) : Prop := match cloop2 vs vs1 gt ct mi1 gt1 ct1 el rest s with
  | .ok ys st2 => (acc ++ ys).length ≤ 16777216 ∧ Pst K mg W (TR K) g H σ (.ok (.own (acc ++ ys)) { st2 with sl := unwipe s1.sl st2.sl vs }) Q
  | _ => False
def PcI (K : PySem.W.Frag) (mg : Str → Option Value) (W : WX) (vs vs1 : List Nat) (gt : T → M Unit) (ct : M Bool) (mi1 : M (List Val)) (gt1 : T → M Unit) (ct1 : M Bool) (el : M T) (s1 : MS) (g : G) (H : Hp) (σ : L2.St) (Q : VK) (acc inner rest : List Val) (s : MS) : Prop := match cloop vs1 gt1 ct1 el inner s with
  | .ok zs s' => Pc2 K mg W vs vs1 gt ct mi1 gt1 ct1 el s1 g H σ Q (acc ++ zs) rest s'
  | _ => False
theorem Pc2.len {s1 s : MS} {g : G} {acc rest : List Val} (h : Pc2 K mg W vs vs1 gt ct mi1 gt1 ct1 el s1 g H σ Q acc rest s) : acc.length ≤ 16777216 := by
  unfold Pc2 at h
  split at h
  · have := h.1
    rw [List.length_append] at this
    omega
  · exact h.elim
theorem comp2_ok (hsub : ∀ i ∈ vs1, i ∈ vs) (h : sE K mg W (mComp2 vs vs1 mi gt ct mi1 gt1 ct1 el) σ H Q) :
    tLc2 (sI K mg W mi) (sG K mg W0 (inF vs) gt) (sT K mg W0 ct) (sIX K mg W0 mi1) (sG K mg W0 (inF vs1) gt1) (sT K mg W0 ct1) (sE K mg W0 el) vs vs1 σ H Q := by
  obtain ⟨g, st, r, p⟩ := h
  refine ⟨g, st, r, ?_⟩
  have p : Pst K mg W (TR K) g H σ ((mi st).bind fun xs st1 => (noexc (cloop2 vs vs1 gt ct mi1 gt1 ct1 el xs st1)).bind fun ys st2 => if ys.length ≤ 16777216 then .ok (.own ys) { st2 with sl := unwipe st1.sl st2.sl vs } else .bad) Q := p
  cases hm : mi st with
  | bad => rw [hm] at p; exact p.elim
  | exc x s => rw [hm] at p; exact p
  | ok xs s1 =>
    rw [hm] at p
    intro g1 H1 J e1 r1 src D hD
    have p : Pst K mg W (TR K) g H σ ((noexc (cloop2 vs vs1 gt ct mi1 gt1 ct1 el xs s1)).bind fun ys st2 => if ys.length ≤ 16777216 then .ok (.own ys) { st2 with sl := unwipe s1.sl st2.sl vs } else .bad) Q := p
    have p0 : Pc2 K mg W vs vs1 gt ct mi1 gt1 ct1 el s1 g H σ Q [] xs s1 := by
      unfold Pc2
      cases hc : cloop2 vs vs1 gt ct mi1 gt1 ct1 el xs s1 with
      | bad => rw [hc] at p; exact p
      | exc x s => rw [hc] at p; exact p
      | ok ys s2 =>
        rw [hc] at p
        have p : Pst K mg W (TR K) g H σ (if ys.length ≤ 16777216 then .ok (.own ys) { s2 with sl := unwipe s1.sl s2.sl vs } else .bad) Q := p
        split at p
        · rename_i hz
          exact ⟨hz, p⟩
        · exact p.elim
    have hD0 : H D = none := e1.nn D hD
    have aD : Add H1 (upd H1 D (.lst [])) := Add.upd hD
    have tr0 : TR K g H g1 (upd H1 D (.lst [])) σ (.own []) (.ref D) := ⟨D, [], rfl, upd_same, VRs.nil, fun z => r1.sa D z hD, r1.wf.no_rho hD, r1.wf.no_O hD, .inl hD0⟩
    let Inv : Nat → Hp → Prop := fun i H' => ∃ g' s' σ' acc, Ext g H g' H' ∧ Ext g1 H1 g' H' ∧ R K g' s' σ' H' ∧ wipe σ' vs = wipe σ vs ∧ TR K g H g' H' σ (.own acc) (.ref D) ∧ Pc2 K mg W vs vs1 gt ct mi1 gt1 ct1 el s1 g H σ Q acc (xs.drop i) s'
    refine ⟨fun i m H' => i ≤ xs.length ∧ m = xs.length - i ∧ Inv i H', ⟨xs.length, Nat.zero_le _, rfl, g1, s1, σ, [], e1.trans aD.ext, aD.ext, r1.add aD, rfl, tr0, p0⟩, ?_⟩
    rintro i m H' ⟨hi, rfl, g', s', σ', acc, e', e1', r', hw, tr, p'⟩
    by_cases hl : i < xs.length
    case neg =>
      have : i = xs.length := by omega
      subst this
      rw [List.drop_length] at p'
      refine .inl ⟨src.stop g' H' e1' _ (Nat.le_refl _), ?_⟩
      have p' : Pst K mg W (TR K) g H σ (.ok (.own (acc ++ [])) { s' with sl := unwipe s1.sl s'.sl vs }) Q := p'.2
      rw [List.append_nil] at p'
      exact p' _ _ H' e'.wiped (r1.unwiped e1' r' hw) tr.wiped
    refine .inr ⟨src.go g' H' e1' i hl, fun H' => i + 1 ≤ xs.length ∧ Inv (i + 1) H', fun H2 ⟨a1, a2⟩ => ⟨xs.length - (i + 1), by omega, a1, rfl, a2⟩, fun x H'' hy => ?_⟩
    obtain ⟨ad, v, hv, qv⟩ := src.yld g' H' e1' i x H'' hl hy
    have hd : xs.drop i = v :: xs.drop (i + 1) := by
      rw [List.drop_eq_getElem_cons hl]
      rw [List.getElem?_eq_getElem hl] at hv
      cases hv; rfl
    rw [hd] at p'
    have r2 := r'.add ad
    have rw2 := r2.wiped (vs := vs)
    have tr2 : TR K g H { g' with O := oWipe g'.O vs } H'' σ (.own acc) (.ref D) := (TR.rel.ext r'.wf ad.ext tr).wiped
    rw [hw] at rw2
    have eb : Ext g H { g' with O := oWipe g'.O vs } H'' := (e'.trans ad.ext).wiped
    have eb1 : Ext g1 H1 { g' with O := oWipe g'.O vs } H'' := (e1'.trans ad.ext).wiped
    refine ⟨_, H'', _, { s' with sl := wipeS s'.sl vs }, .val v, .refl, rw2, VR.O _ qv, ?_⟩
    simp only [Pc2, cloop2] at p'
    cases hg : gt (.val v) { s' with sl := wipeS s'.sl vs } with
    | bad => rw [hg] at p'; exact p'.elim
    | exc y s2 => rw [hg] at p'; exact p'.elim
    | ok u s2 =>
      rw [hg] at p'
      intro g3 σ3 H3 e3 r3 a3
      have hw3 := wipe_agr a3
      refine ⟨hw3, g3, s2, r3, ?_⟩
      simp only [Out.bind] at p'
      cases hc : ct s2 with
      | bad => rw [hc] at p'; exact p'.elim
      | exc y s3 => rw [hc] at p'; exact p'.elim
      | ok b s3 =>
        rw [hc] at p'
        intro g4 b' H4 e4 r4 hb
        have hb : b' = b := hb
        subst hb
        have tr4 := TR.rel.ext r3.wf e4 (TR.rel.ext rw2.wf e3 tr2)
        have e34 := e3.trans e4
        cases b' with
        | false =>
          refine iteF ⟨hl, g4, s3, σ3, acc, eb.trans e34, eb1.trans e34, r4, hw3, tr4, ?_⟩
          simp only [if_neg Bool.false_ne_true] at p'
          exact p'
        | true =>
          refine iteT ⟨g4, s3, r4, ?_⟩
          simp only [if_true] at p'
          cases hmi : mi1 s3 with
          | bad => rw [hmi] at p'; exact p'.elim
          | exc y s4 => rw [hmi] at p'; exact p'.elim
          | ok ys s4 =>
            rw [hmi] at p'
            intro g5 H5 J1 e5 r5 src1
            have pI : PcI K mg W vs vs1 gt ct mi1 gt1 ct1 el s1 g H σ Q acc ys (xs.drop (i + 1)) s4 := by
              unfold PcI
              simp only [] at p'
              cases hk : cloop vs1 gt1 ct1 el ys s4 with
              | bad => rw [hk] at p'; exact p'
              | exc y s5 => rw [hk] at p'; exact p'
              | ok zs s5 =>
                rw [hk] at p'
                simp only [] at p'
                show Pc2 K mg W vs vs1 gt ct mi1 gt1 ct1 el s1 g H σ Q (acc ++ zs) (xs.drop (i + 1)) s5
                unfold Pc2
                cases hk2 : cloop2 vs vs1 gt ct mi1 gt1 ct1 el (xs.drop (i + 1)) s5 with
                | bad => rw [hk2] at p'; exact p'.elim
                | exc y s6 => rw [hk2] at p'; exact p'.elim
                | ok ws s6 =>
                  rw [hk2] at p'
                  show _ ∧ _
                  rw [List.append_assoc]
                  exact p'
            have eA : Ext g H g5 H5 := (eb.trans e34).trans e5
            have eA1 : Ext g1 H1 g5 H5 := (eb1.trans e34).trans e5
            have trA := TR.rel.ext r4.wf e5 tr4
            have hD5 : ¬ g5.S D ∧ ∃ l, H5 D = some (.lst l) := by
              obtain ⟨D', accW, h1, h2, _, h4, _⟩ := trA
              cases h1
              exact ⟨h4, _, h2⟩
            let O5 : Nat → Option Addr := fun i => if i = s4.sl.length then some D else g5.O i
            have bigN : ∀ i a, g5.O i = some a → i ≠ s4.sl.length := fun i a e z => by
              obtain ⟨⟨us, q⟩, _⟩ := r5.oi i a e
              rw [z] at q
              exact absurd (lt_of_get q) (Nat.lt_irrefl _)
            have ok5 : OkO g5 H5 O5 := fun i a e => by
              have e : (if i = s4.sl.length then some D else g5.O i) = some a := e
              split at e
              · cases e; exact hD5
              · obtain ⟨⟨us, q⟩, q2, _⟩ := r5.oi i a e
                obtain ⟨b, ws, k1, _, k3, _⟩ := r5.ow i us q
                rw [e] at k1; cases k1
                exact ⟨q2, _, k3⟩
            have src1 := src1 O5 ok5
            have D5 : O5 s4.sl.length = some D := by show (if _ = _ then _ else _) = _; rw [if_pos rfl]
            have f0 : Ext { g5 with O := O5 } H5 g5 H5 := ⟨fun _ _ h => h, fun _ h => h, fun a o h _ _ _ => h, fun _ h => h, fun _ _ h => .inl h, fun _ h => .inl h, fun i a h => .inl ⟨i, by show (if _ = _ then _ else _) = _; rw [if_neg (bigN i a h)]; exact h⟩⟩
            let InvI : Nat → Hp → Prop := fun j H' => ∃ g' s' σ' acc, Ext g H g' H' ∧ Ext g1 H1 g' H' ∧ Ext { g5 with O := O5 } H5 g' H' ∧ R K g' s' σ' H' ∧ wipe σ' vs1 = wipe σ3 vs1 ∧ TR K g H g' H' σ (.own acc) (.ref D) ∧ PcI K mg W vs vs1 gt ct mi1 gt1 ct1 el s1 g H σ Q acc (ys.drop j) (xs.drop (i + 1)) s'
            refine ⟨fun j k H' => j ≤ ys.length ∧ k = ys.length - j ∧ InvI j H', ⟨ys.length, Nat.zero_le _, rfl, g5, s4, σ3, acc, eA, eA1, f0, r5, rfl, trA, pI⟩, ?_⟩
            rintro j k H6 ⟨hj, rfl, g6, s6, σ6, acc6, f1, f2, f3, r6, hw6, tr6, p6⟩
            by_cases hjl : j < ys.length
            case neg =>
              have : j = ys.length := by omega
              subst this
              rw [List.drop_length] at p6
              refine .inl ⟨src1.stop g6 H6 f3 _ (Nat.le_refl _), hl, g6, s6, σ6, acc6, f1, f2, r6, (wipe_sub hsub hw6).trans hw3, tr6, ?_⟩
              have p6 : Pc2 K mg W vs vs1 gt ct mi1 gt1 ct1 el s1 g H σ Q (acc6 ++ []) (xs.drop (i + 1)) s6 := p6
              rw [List.append_nil] at p6
              exact p6
            refine .inr ⟨src1.go g6 H6 f3 j hjl, fun H' => j + 1 ≤ ys.length ∧ InvI (j + 1) H', fun H2 ⟨a1, a2⟩ => ⟨ys.length - (j + 1), by omega, a1, rfl, a2⟩, fun x7 H7 hy7 => ?_⟩
            obtain ⟨ad7, v7, hv7, qv7⟩ := src1.yld g6 H6 f3 j x7 H7 hjl hy7
            have hd7 : ys.drop j = v7 :: ys.drop (j + 1) := by
              rw [List.drop_eq_getElem_cons hjl]
              rw [List.getElem?_eq_getElem hjl] at hv7
              cases hv7; rfl
            rw [hd7] at p6
            have r7 := r6.add ad7
            have rw7 := r7.wiped (vs := vs1)
            have tr7 : TR K g H { g6 with O := oWipe g6.O vs1 } H7 σ (.own acc6) (.ref D) := (TR.rel.ext r6.wf ad7.ext tr6).wiped
            rw [hw6] at rw7
            have f17 : Ext g H { g6 with O := oWipe g6.O vs1 } H7 := (f1.trans ad7.ext).wiped
            have f27 : Ext g1 H1 { g6 with O := oWipe g6.O vs1 } H7 := (f2.trans ad7.ext).wiped
            have f37 : Ext { g5 with O := O5 } H5 { g6 with O := oWipe g6.O vs1 } H7 := (f3.trans ad7.ext).wiped
            refine ⟨_, H7, _, { s6 with sl := wipeS s6.sl vs1 }, .val v7, .refl, rw7, VR.O _ qv7, ?_⟩
            simp only [PcI, cloop] at p6
            cases hg7 : gt1 (.val v7) { s6 with sl := wipeS s6.sl vs1 } with
            | bad => rw [hg7] at p6; exact p6.elim
            | exc y s8 => rw [hg7] at p6; exact p6.elim
            | ok u8 s8 =>
              rw [hg7] at p6
              intro g8 σ8 H8 e8 r8 a8
              have hw8 := wipe_agr a8
              refine ⟨hw8, g8, s8, r8, ?_⟩
              simp only [Out.bind] at p6
              cases hc8 : ct1 s8 with
              | bad => rw [hc8] at p6; exact p6.elim
              | exc y s9 => rw [hc8] at p6; exact p6.elim
              | ok b9 s9 =>
                rw [hc8] at p6
                intro g9 b' H9 e9 r9 hb9
                have hb9 : b' = b9 := hb9
                subst hb9
                have tr9 := TR.rel.ext r8.wf e9 (TR.rel.ext rw7.wf e8 tr7)
                have e89 := e8.trans e9
                cases b' with
                | false =>
                  refine iteF ⟨hjl, g9, s9, σ8, acc6, f17.trans e89, f27.trans e89, f37.trans e89, r9, hw8, tr9, ?_⟩
                  simp only [if_neg Bool.false_ne_true] at p6
                  exact p6
                | true =>
                  refine iteT ⟨g9, s9, r9, ?_⟩
                  simp only [if_true] at p6
                  cases he : el s9 with
                  | bad => rw [he] at p6; exact p6.elim
                  | exc y s4 => rw [he] at p6; exact p6.elim
                  | ok t10 s10 =>
                    rw [he] at p6
                    intro ga y Ha ea ra qa
                    simp only [] at p6
                    cases ht : mTake t10 s10 with
                    | bad => rw [ht] at p6; exact p6.elim
                    | exc y s5 => exact (take_noexc ht).elim
                    | ok v' s11 =>
                      rw [ht] at p6
                      simp only [] at p6
                      obtain ⟨gb, eb', rb, vb, lb, _⟩ := take_ok ea ra qa.tw ht
                      have trb := TR.rel.ext r9.wf eb' tr9
                      obtain ⟨D', accW, h1, h2, h3, h4, h5, h6, h7⟩ := trb
                      cases h1
                      have hlen : accW.length = acc6.length := h3.length.symm
                      have pN : PcI K mg W vs vs1 gt ct mi1 gt1 ct1 el s1 g H σ Q (acc6 ++ [v']) (ys.drop (j + 1)) (xs.drop (i + 1)) s11 := by
                        unfold PcI
                        cases hk : cloop vs1 gt1 ct1 el (ys.drop (j + 1)) s11 with
                        | bad => rw [hk] at p6; exact p6
                        | exc y s12 => rw [hk] at p6; exact p6
                        | ok zs s12 =>
                          rw [hk] at p6
                          simp only [List.append_assoc, List.singleton_append]
                          exact p6
                      have hsz : acc6.length < 16777216 := by
                        have pN' := pN
                        unfold PcI at pN'
                        split at pN'
                        · have := Pc2.len pN'
                          simp only [List.length_append, List.length_singleton] at this
                          omega
                        · exact pN'.elim
                      refine ⟨accW, h2, by rw [hlen, sizeLine_eq]; exact hsz, hjl, gb, s11, σ8, acc6 ++ [v'], ?_, ?_, ?_, ?_, hw8, ?_, pN⟩
                      · exact (f17.trans (e89.trans eb')).other hD0
                      · exact (f27.trans (e89.trans eb')).other hD
                      · have fz := f37.trans (e89.trans eb')
                        refine ⟨fz.rho, fz.s, fun b o hb hnt hr hO => ?_, fun b z => ?_, fz.rhoN, fz.sN, fz.oN⟩
                        · rw [upd_ne (fun z => hO _ (by rw [z]; exact D5))]
                          exact fz.fr b o hb hnt hr hO
                        · by_cases hb : b = D
                          · rw [hb, upd_same] at z; cases z
                          · rw [upd_ne hb] at z
                            exact fz.nn b z
                      · exact rb.other h4 h5 h6 ⟨_, h2⟩
                      · have hm : ∃ l, Ha D = some (.lst l) := ⟨_, h2⟩
                        exact ⟨D, _, rfl, upd_same, VRs.app (VRs.other h4 hm _ _ h3) (VRs.other h4 hm _ _ (VRs.cons vb VRs.nil)), h4, h5, h6, h7⟩
end
section
variable {X : Cx} {W : WX} {tg iter tg1 iter1 elt : Expr} {ifs ifs1 : List Expr} {scope : Scope} {own : List (Str × Nat)} {vs1 : List Nat} {pos : Pos} {mi mi1 : M (List Val)} {gt gt1 : T → M Unit} {ct ct1 : M Bool} {el : M T}
theorem s_comp2 (hc : X.calm = true) (hN : X.N.Nodup) (hi : SI X W tg iter mi) (ok : BlkOk X.N X.env.scope scope own) (hv : ∀ i ∈ vs1, i ∈ own.map (·.2))
    (hg : ∀ (s : Shared) (H : Hp) (C : Addr) (cl : List (Str × Addr)) (fp : List Addr), SG (X.blk s H scope (compEnvC scope cl C X.env) fp) W0 (inF (own.map (·.2))) tg gt) (ht : ∀ (s : Shared) (H : Hp) (C : Addr) (cl : List (Str × Addr)) (fp : List Addr), sTs (X.blk s H scope (compEnvC scope cl C X.env) fp) W0 ifs ct)
    (hi1 : ∀ (s : Shared) (H : Hp) (C : Addr) (cl : List (Str × Addr)) (fp : List Addr), PI (X.blk s H scope (compEnvC scope cl C X.env) fp) tg1 iter1 (sIX X.K X.mg W0 mi1))
    (hg1 : ∀ (s : Shared) (H : Hp) (C : Addr) (cl : List (Str × Addr)) (fp : List Addr), SG (X.blk s H scope (compEnvC scope cl C X.env) fp) W0 (inF vs1) tg1 gt1) (ht1 : ∀ (s : Shared) (H : Hp) (C : Addr) (cl : List (Str × Addr)) (fp : List Addr), sTs (X.blk s H scope (compEnvC scope cl C X.env) fp) W0 ifs1 ct1)
    (he : ∀ (s : Shared) (H : Hp) (C : Addr) (cl : List (Str × Addr)) (fp : List Addr), SE (X.blk s H scope (compEnvC scope cl C X.env) fp) W0 elt el) (hs : ∀ x, foldedSetIterable iter X.env x = pure x := by intro _; rfl) (hs1 : ∀ env x, foldedSetIterable iter1 env x = pure x := by intro _ _; rfl) :
    SE X W (.ListComp elt [⟨tg, iter, ifs, 0⟩, ⟨tg1, iter1, ifs1, 0⟩] scope pos) (mComp2 (own.map (·.2)) vs1 mi gt ct mi1 gt1 ct1 el) := (pe_lc2 hc hN hi.ex ok hv hg ht hi1 hg1 ht1 he hs hs1).im fun σ H Q h => comp2_ok hv h
end
end Lk

namespace Lk
open PySem PySem.W PySem.Calls PyProof.Rows PyProof.V PySem.Spec PySem.HandSPX
/-! ### C(k = v, ..), C an own class of exceptions whose __init__ takes keywords alone -/
section
variable {prog : Program} {w : World} {A : Around} {R : Result → Shared → Prop} {h : Heap} {g : Array GenState} {d : Drawn} {t : Nat} {os : OsState} {C fI : Addr} {kw : List (Str × Value)}
/-- the exception ahead of its __init__: no argument was positional -/
abbrev bareX (h : Heap) (C : Addr) : Heap := (h.push (PySem.W.kdv_tup [])).push (excO C h.objs.size)
theorem kwx_call {nm q : Str} {N : Addr} {bs bm : List Value} {sn : List Str} {sub : List Value} {ab : Bool} {col : Option Bool} {dd : Option Addr} {k0 k1 k2 k3 k5 : Option Value} (hC : h.get? C = some (excClassObj nm q C N bs bm true sn sub ab col dd k0 k1 k2 k3 k5 "ValueError.__new__")) (ve : refsVE bm = true)
    (hi : Looks (model prog w) h (typeLookup (.ref C) "__init__") (some (.ref fI))) (hb : ∀ self, Looks (model prog w) h (bindSpecial (.ref fI) self) (.ref fI, [self]))
    (hq : codeAny (model prog w) (A.under (.builtin "type.__call__" ⟨[.ref C], kw⟩)) (.call (.ref fI) ⟨[.ref (h.objs.size + 1)], kw⟩) (InitBack (h.objs.size + 1) R) ⟨bareX h C, g, d, t, os⟩) : codeAny (model prog w) A (.call (.ref C) ⟨[], kw⟩) R ⟨h, g, d, t, os⟩ := by
  have X := F.excBase_ValueError
  have isV : (Value.ref C :: bm).contains (.type "ValueError") = true := by rw [List.contains_cons, refsVE_contains "ValueError" bm ve, X.hasB, Bool.or_true]
  have noA : (Value.ref C :: bm).contains (.type "AttributeError") = false := by rw [List.contains_cons, refsVE_contains "AttributeError" bm ve, X.noAttr] <;> rfl
  have noN : (Value.ref C :: bm).contains (.type "NameError") = false := by rw [List.contains_cons, refsVE_contains "NameError" bm ve, X.noName] <;> rfl
  -- BaseException.__new__
  have new : ∀ {A' : Around} {R' : Result → Shared → Prop}, R' (.ok (.ret (.ref (h.objs.size + 1)))) ⟨bareX h C, g, d, t, os⟩ → codeAny (model prog w) A' (.builtin "ValueError.__new__" ⟨[.ref C], kw⟩) R' ⟨h, g, d, t, os⟩ := fun {A' R'} z => by
    have ends := X.ends
    have few : ([] : List Value).length ≤ sizeLine := Nat.zero_le _
    refine codeAny_builtinAt X.entry (_root_.PySem.wpAt_bind ?_)
    show _root_.PySem.wpAt _ _ _ (stack >>= _) _ _ _
    refine _root_.PySem.wpAt_bind (_root_.PySem.wpAt_stack fun _ _ => _root_.PySem.wpAt_of_wpAny ?_)
    wp_walk
    apply _root_.PySem.wpAt_of_wpAny
    rw [X.owner]
    repeat (first
      | with_reducible refine wpAny_madeHere_exc X.canon hC ?_
      | with_reducible refine wpAny_loadPart_at hC ?_
      | (with_reducible refine wpAny_isSubtype_exc hC ?_; first | rw [isV] | rw [noA] | rw [noN])
      | wp_step)
    show R' _ _
    rwa [Heap.size_push]
  have newOk : ∀ {A' : Around} {E : Value → Shared → Prop} {Q : Unit → Shared → Prop}, Q () ⟨h, g, d, t, os⟩ → wpAny (model prog w) A' (checkBuiltinCall "ValueError.__new__" ⟨[.ref C], kw⟩) Q E ⟨h, g, d, t, os⟩ := fun {A' E Q} z => by
    have star := X.noStar
    simp only [checkBuiltinCall, X.newKind, X.newSplit, X.newRow]
    repeat (first
      | refine wpAny_loadPart_at hC ?_
      | (refine wpAny_isSubtype_exc hC ?_; rw [isV])
      | refine wpAny_staticBase_exc hC ?_
      | refine wpAny_madeBy_exc hC ?_
      | simp only [bne_self_eq_false, Bool.false_eq_true, if_false]
      | wp_step)
    exact z
  -- type.__call__
  have typeOk : ∀ {A' : Around} {E : Value → Shared → Prop} {Q : Unit → Shared → Prop}, Q () ⟨h, g, d, t, os⟩ → wpAny (model prog w) A' (checkBuiltinCall "type.__call__" ⟨[.ref C], kw⟩) Q E ⟨h, g, d, t, os⟩ := fun {A' E Q} z => by
    have s1 := tc_sub
    have s2 : (⟨h, g, d, t, os⟩ : Shared).TypeIs (.ref C) "type" := ⟨_, hC, rfl⟩
    simp only [checkBuiltinCall, tc_kind, tc_split]
    repeat (any_goals (first
      | assumption
      | with_reducible refine wpAny_loadPart_at hC ?_
      | with_reducible refine wpAny_onRaise ?_
      | with_reducible refine wpAny_map ?_
      | wp_step))
  have stay : ∀ b o, h.get? b = some o → (bareX h C).get? b = some o := fun b o e => Heap.get?_push_of_some _ (Heap.get?_push_of_some _ e)
  have made : (bareX h C).get? (h.objs.size + 1) = some (excO C h.objs.size) := by heap_get
  have init : ∀ {A' : Around} {E : Value → Shared → Prop} {Q : Fin → Shared → Prop}, codeAny (model prog w) A' (.call (.ref fI) ⟨[.ref (h.objs.size + 1)], kw⟩) (fun r s' => match r with
      | .ok (.ret v) => v = .none ∧ Q (.done (.ret (.ref (h.objs.size + 1)))) s'
      | .ok _ => False
      | .error e => E e s') ⟨bareX h C, g, d, t, os⟩ → wpAny (model prog w) A' (Builtin.«type.__call__» ⟨[.ref C], kw⟩) Q E ⟨h, g, d, t, os⟩ := fun {A' E Q} z => by
    repeat (first
      | with_reducible refine wpAny_loadPart_at hC ?_
      | with_reducible refine wpAny_madeBy_exc hC ?_
      | wp_step)
    refine codeAny_call_builtin_code (Code.quiet_builtin _ X.quiet) (newOk (new ?_))
    show wpAny _ _ _ _ _ _
    have own : (Value.ref C :: bm).contains (.ref C) = true := by simp
    have still := stay _ _ hC
    unfold PySem.isInstance
    repeat (first
      | with_reducible refine wpAny_loadPart_at made ?_
      | (with_reducible refine wpAny_isSubtype_exc still ?_; rw [own])
      | wp_step)
    show wpAny _ _ (typeLookup (.ref C) _) _ _ _
    refine (hi.keeps stay).at (wpAny_holding (wpAny_bind (((hb _).keeps stay).at (wpAny_bind (wpAny_call (codeAny_mono z ?_))))))
    rintro (e | v | _ | _ | _) s' k <;> first
      | exact k
      | exact False.elim k
      | (obtain ⟨rfl, k⟩ := k
         first
           | exact wpAny_pure (wpAny_pure k)
           | (wp_walk; exact k))
  have l1 := tc_lookup
  have l2 := tc_bind (.ref C)
  have l3 : (⟨h, g, d, t, os⟩ : Shared).TypeIs (.ref C) "type" := ⟨_, hC, rfl⟩
  apply codeAny_of_tree
  show wpAny _ _ (callAny (.ref C) _) _ _ _
  repeat (any_goals (first
    | assumption
    | with_reducible refine wpAny_loadPart_at hC ?_
    | wp_step))
  exact ⟨rfl, codeAny_call_builtin_at (Code.quiet_builtin _ (by decide +kernel)) entry_typeCall (typeOk (init (codeAny_mono hq fun r s' z => by rcases r with _ | _ | _ | _ | _ <;> exact z)))⟩
end
end Lk
namespace Lk
open PySem PySem.Spec PyProof.Rows L2 LamX Sm
/-! ### the class's __init__ -/
/-- B, an own class over ValueError without an __init__ -/
structure BaseI (K : PySem.W.Frag) (mg : Str → Option Value) (B : Str) : Prop where
  mgB : mg B = some (.ref (He.ga K B))
  rd : PySem.W.readsIn K (He.ga K B) (.type "type") = true
  sp : PySem.W.specialIn K (.ref (He.ga K B)) "__getattribute__" = some (some (.builtin "type.__getattribute__"))
  fd : PySem.W.findCls K (.ref (He.ga K B)) (.type "type") "__init__" = some (.val (.builtin "ValueError.__init__"))
section
variable {X : Cx} {B : Str} {e o : Expr} {es : List Expr} {ta : TA} {p1 p2 pos : Pos} {pl : Sem Bool}
/-- B.__init__(self, ..) -/
theorem pe_obi (F : BaseI X.K X.mg B) (hg : Gl X B) (hdb : (B == ("__debug__" : Str)) = false) (ha : PA X (e :: es) ta) (T : MTx X (.Name B p1) "__init__" (e :: es) pos p2 pl) (he : starEach (e :: es) X.env = (false, eval e X.env) :: starEach es X.env)
    (hpl : (backTo pos (starEach es X.env)).any (·.1) = false) : PE X (.Call (.Attribute (.Name B p1) "__init__" p2) (e :: es) [] pos) (tVeI X.K ta) where
  run pins s σ H Q I h := by
    refine PySem.W.methodCall_KW (ld_glob I hg F.mgB (PySem.W.method_cls I.kIn F.sp (PySem.W.cls_value I.kIn F.rd F.fd (by decide +kernel) ?_)) hdb) T
    refine PyProof.Rows.callWith_method1 (thn (ha.run pos pins _ σ H _ (I.tok _) h) ?_) he hpl
    rintro us s1 ⟨_, H1, I1, rs, a, C, ws, rfl, few, T, at_, q⟩
    cases rs with | @cons _ u0 _ ur r0 rt => ?_
    cases r0
    exact oinit_ok T I1 at_ (by rw [← Paired.length rt, sizeLine_eq]; omega) fun s' J => ⟨.non, H1, J, rfl, q⟩
end
/-- what __init__ does on a new exception at a: its fields are laid, the newest in front -/
def spXI (K : PySem.W.Frag) (C : Addr) (ks : List Str) : Sp := fun vs H Q _ => ∃ (a : Addr) (ws : List V), vs = .ref a :: ws ∧ ws.length = ks.length ∧ OexC K C ∧ (∀ k ∈ ks, PySem.W.findIn K (.ref C) k = some none) ∧ H a = some (exo a C none) ∧
  ∀ (dx : Addr) (H' : Hp), H dx = none → dx ≠ a → H' a = some (exo a C (some dx)) → H' dx = some (exd dx (ks.zip ws).reverse) → (∀ b, b ≠ a → b ≠ dx → H' b = H b) → Q .non H'
section
variable {P : Program} {w : World} {K : PySem.W.Frag} {mg : Str → Option Value} {base : Heap} {x qual : Str} {params : Arguments} {scope : Scope} {f : Addr} {fd : FuncData} {C : Addr} {k1 k2 : Str} {p1 p2 p3 p4 p5 p6 p7 p8 p9 p10 p11 p12 p13 : Pos}
def ini1 (k1 : Str) (p1 p2 p3 p4 p5 p6 p7 p8 p9 p10 : Pos) : List Stmt := [.Expr (.Call (.Attribute (.Name "BreathError" p1) "__init__" p2) [.Name "self" p3, .Name k1 p4] [] p5) p6, .Assign [.Attribute (.Name "self" p7) k1 p8] (.Name k1 p9) p10]
theorem init1 (F : FunD K x qual params (ini1 k1 p1 p2 p3 p4 p5 p6 p7 p8 p9 p10) scope [] [] f fd) (S : FnScope ["self", k1] ["self", k1] scope) (B : BaseI K mg "BreathError") (hg : scope.names.lookup ("BreathError" : Str) = some .globalImplicit)
    (v0 : Vis scope "self") (v1 : Vis scope k1) (d1 : (k1 == ("__debug__" : Str)) = false) (d2 : (k1 == ("__classdict__" : Str)) = false)
    (hT : ∀ (cdv : Value) (A : Around) (outer : List Env) (s : Shared) (H : Hp) (E : XK), ∃ pl, MTx (cxOf (L2.CX P w) P w K mg base ["self", k1] qual scope f cdv A outer s H E) (.Name "BreathError" p1) "__init__" [.Name "self" p3, .Name k1 p4] p5 p2 pl) :
    FnOk P w K mg base (L2.CX P w) 1 f fd ["self", k1] (spXI K C [k1]) := by
  refine FunD.ok F S (fun vs H Q E ⟨a, ws, h, l, _⟩ => by rw [h, List.length_cons, l]; rfl) fun cdv A outer s H vs Q E _ h => ?_
  obtain ⟨a, ws, rfl, hl, T, no, at_, q⟩ := h
  obtain ⟨pl, hT⟩ := hT cdv A outer s H E
  match ws, hl with
  | [y], _ =>
    refine ⟨_, pss_cons (ps_expr (pe_obi (X := cxOf (L2.CX P w) P w K mg base ["self", k1] qual scope f cdv A outer s H E) B hg (by decide) (pa_cons (pe_var (i := 0) rfl v0) (pa_cons (pe_var (i := 1) rfl v1 d1 d2) pa_nil)) hT rfl rfl))
      (pss_one (ps_ost (pe_var (i := 0) rfl v0) (pe_var (i := 1) rfl v1 d1 d2))), ?_⟩
    refine ⟨.ref a, rfl, y, rfl, a, C, [y], rfl, by simp, T, at_, y, rfl, .ref a, rfl, a, C, rfl, T, no k1 (by simp), .inl ⟨at_, fun dx n ne => q dx _ n ne upd_same ?_ fun b h1 h2 => ?_⟩⟩
    · rw [upd_ne ne]; exact upd_same
    · rw [upd_ne h1, upd_ne h2]
def ini2 (k1 k2 : Str) (p1 p2 p3 p4 p5 p6 p7 p8 p9 p10 q1 q2 q3 q4 q5 : Pos) : List Stmt := [.Expr (.Call (.Attribute (.Name "BreathError" p1) "__init__" p2) [.Name "self" p3, .Name k1 p4, .Name k2 q1] [] p5) p6, .Assign [.Attribute (.Name "self" p7) k1 p8] (.Name k1 p9) p10, .Assign [.Attribute (.Name "self" q2) k2 q3] (.Name k2 q4) q5]
theorem init2 {q1 q2 q3 q4 q5 : Pos} (F : FunD K x qual params (ini2 k1 k2 p1 p2 p3 p4 p5 p6 p7 p8 p9 p10 q1 q2 q3 q4 q5) scope [] [] f fd) (S : FnScope ["self", k1, k2] ["self", k1, k2] scope) (B : BaseI K mg "BreathError") (hg : scope.names.lookup ("BreathError" : Str) = some .globalImplicit)
    (v0 : Vis scope "self") (v1 : Vis scope k1) (d1 : (k1 == ("__debug__" : Str)) = false) (d2 : (k1 == ("__classdict__" : Str)) = false) (v2 : Vis scope k2) (d3 : (k2 == ("__debug__" : Str)) = false) (d4 : (k2 == ("__classdict__" : Str)) = false)
    (hT : ∀ (cdv : Value) (A : Around) (outer : List Env) (s : Shared) (H : Hp) (E : XK), ∃ pl, MTx (cxOf (L2.CX P w) P w K mg base ["self", k1, k2] qual scope f cdv A outer s H E) (.Name "BreathError" p1) "__init__" [.Name "self" p3, .Name k1 p4, .Name k2 q1] p5 p2 pl) :
    FnOk P w K mg base (L2.CX P w) 1 f fd ["self", k1, k2] (spXI K C [k1, k2]) := by
  refine FunD.ok F S (fun vs H Q E ⟨a, ws, h, l, _⟩ => by rw [h, List.length_cons, l]; rfl) fun cdv A outer s H vs Q E _ h => ?_
  obtain ⟨a, ws, rfl, hl, T, no, at_, q⟩ := h
  obtain ⟨pl, hT⟩ := hT cdv A outer s H E
  match ws, hl with
  | [y, z], _ =>
    refine ⟨_, pss_cons (ps_expr (pe_obi (X := cxOf (L2.CX P w) P w K mg base ["self", k1, k2] qual scope f cdv A outer s H E) B hg (by decide) (pa_cons (pe_var (i := 0) rfl v0) (pa_cons (pe_var (i := 1) rfl v1 d1 d2) (pa_cons (pe_var (i := 2) rfl v2 d3 d4) pa_nil))) hT rfl rfl))
      (pss_cons (ps_ost (pe_var (i := 0) rfl v0) (pe_var (i := 1) rfl v1 d1 d2)) (pss_one (ps_ost (pe_var (i := 0) rfl v0) (pe_var (i := 2) rfl v2 d3 d4)))), ?_⟩
    refine ⟨.ref a, rfl, y, rfl, z, rfl, a, C, [y, z], rfl, by simp, T, at_, y, rfl, .ref a, rfl, a, C, rfl, T, no k1 (by simp), .inl ⟨at_, fun dx n ne => ?_⟩⟩
    refine ⟨z, rfl, .ref a, rfl, a, C, rfl, T, no k2 (by simp), .inr ⟨dx, [(k1, y)], upd_same, by rw [upd_ne ne]; exact upd_same, by simp, q dx _ n ne ?_ upd_same fun b h1 h2 => ?_⟩⟩
    · rw [upd_ne ne.symm]; exact upd_same
    · rw [upd_ne h2, upd_ne h1, upd_ne h2]
end
end Lk
namespace Lk
open PySem PySem.Spec PyProof.Rows L2 LamX Sm
/-! ### raise C(k = v, ..) -/
/-- keywords' values, bound behind the object -/
theorem xkb {K : PySem.W.Frag} {x qual : Str} {params : Arguments} {body : List Stmt} {scope : Scope} {f : Addr} {fd : FuncData} {ks : List Str} (F : FunD K x qual params body scope [] [] f fd)
    (h : ∀ (kV doc pm : Value) (an : Option Addr) (cdv ct u : Value) (ws : List Value), ws.length = ks.length → bindArgs (PySem.W.fnOf x qual params body scope .none kV doc pm an cdv ct) ⟨[u], ks.zip ws⟩ = pure ((("self" : Str) :: ks).zip (u :: ws))) :
    KBn K fd (("self" : Str) :: ks) 1 ks (· ++ ·) (· ++ ·) := by
  obtain ⟨_, _, dV, kV, doc, pm, an, cdv, ct, _, rfl, _, _, hD, _⟩ := F.ex
  obtain ⟨_, rfl⟩ | ⟨e, _⟩ := hD
  · refine ⟨fun s us ws _ l1 l2 => ?_, fun r1 r2 => r1.append r2⟩
    match us, l1 with
    | [u], _ => exact .of_eq (h _ _ _ _ _ _ u ws l2)
  · exact absurd rfl e
structure XkOk (P : Program) (w : World) (K : PySem.W.Frag) (mg : Str → Option Value) (base : Heap) (C : Str) (ks : List Str) : Prop where
  mgC : mg C = some (.ref (He.ga K C))
  oex : OexC K (He.ga K C)
  no : ∀ k ∈ ks, PySem.W.findIn K (.ref (He.ga K C)) k = some none
  ini : ∃ fI fd, PySem.W.findIn K (.ref (He.ga K C)) "__init__" = some (some (.ref fI)) ∧ PySem.W.typeIn K (.ref fI) = some (.type "function") ∧ FnOk P w K mg base (L2.CX P w) 1 fI fd (("self" : Str) :: ks) (spXI K (He.ga K C) ks) ∧ KBn K fd (("self" : Str) :: ks) 1 ks (· ++ ·) (· ++ ·)
def tMkK (C : Addr) (K : PySem.W.Frag) (ks : List Str) (tk : TA) : L2.St → Hp → XK → Prop := fun σ H Q => tk σ H fun zs H1 => zs.length = ks.length ∧ ∀ (a d : Addr) (H3 : Hp), H1 a = none → H1 d = none → H3 d = some (.xd (ks.zip zs).reverse) → (∀ b, b ≠ d → H3 b = H1 b) → Q (.ref C) (some d) H3
section
variable {X : Cx} {C : Str} {ks : List Str} {kws : List Keyword} {tk : TA} {p pos : Pos}
theorem pmk_kw (D : XkOk X.prog X.w X.K X.mg X.base C ks) (hr : Room 2 X.A) (hx : Passes (L2.CX X.prog X.w) X (fun _ _ _ => False)) (hg : Gl X C) (hdb : (C == ("__debug__" : Str)) = false) (hk : PK X kws tk) (hall : (backToKw pos (keywordEach kws X.env)).all (·.1.isSome) = true)
    (hks : (backToKw pos (keywordEach kws X.env)).filterMap (·.1) = ks) (hpl : ((backTo pos (starEach [] X.env)).any (·.1) || (backToKw pos (keywordEach kws X.env)).any (·.1.isNone)) = false) : PMk X (.Call (.Name C p) [] kws pos) (tMkK (He.ga X.K C) X.K ks tk) := by
  intro pins s σ H Q I h
  obtain ⟨fI, fd, iC, tI, F1, kb⟩ := D.ini
  refine wpAny_Call_Name_kw (ld_glob I hg D.mgC (PySem.W.callWith_KW0 (h₀ := X.base) I.ok.mod.kin D.oex.kC hall (thn (hk.run pos pins s σ H _ I h) ?_) hpl) hdb)
  rintro ws ⟨hp, g, dr, tk, os⟩ ⟨zs, H1, I1, rz, l, q⟩
  refine ⟨I1.kIn, ?_⟩
  rw [hks]
  show wpAny _ _ (call (.ref (He.ga X.K C)) [] (ks.zip ws)) _ _ _
  obtain ⟨nm, qn, N, bs, bm, sn, sub, ab, col, dd, k0, k1, k2, k3, k5, hC, ve⟩ := D.oex.cls
  have up : hp.objs.size ≤ hp.objs.size + 1 := Nat.le_succ _
  have free : H1 (hp.objs.size + 1) = none := I1.hok.fresh up
  have stay : ∀ b o, hp.get? b = some o → (bareX hp (He.ga X.K C)).get? b = some o := fun b o e => Heap.get?_push_of_some _ (Heap.get?_push_of_some _ e)
  have I2 := I1.laid (t' := tk) (a := hp.objs.size + 1) (o := exo (hp.objs.size + 1) (He.ga X.K C) none) (h' := bareX hp (He.ga X.K C)) stay up (exo_ok (t1 := hp.objs.size) (by heap_get))
  have rs : Vals (V.ref (hp.objs.size + 1) :: zs) (Value.ref (hp.objs.size + 1) :: ws) := .cons rfl rz
  have body := F1.run _ X.stack _ _ ⟨[.ref (hp.objs.size + 1)], ks.zip ws⟩ (.ref (hp.objs.size + 1) :: ws) (.ref (hp.objs.size + 1) :: zs)
    (fun v H2 => v = .non ∧ ∃ (d : Addr) (fs : List (Str × V)), H2 (hp.objs.size + 1) = some (exo (hp.objs.size + 1) (He.ga X.K C) (some d)) ∧ H2 d = some (exd d fs) ∧ H1 d = none ∧ Q (.ref (He.ga X.K C)) (some d) (upd (del H2 (hp.objs.size + 1)) d (.xd fs)))
    (fun _ _ _ => False) (hr.make (He.ga X.K C) [] (ks.zip ws)) (I2.env0.make (He.ga X.K C) [] (ks.zip ws)) (kb.to _ [_] ws I2.kIn rfl (rz.length.symm.trans l)) rs ?_
  · refine wpAny_call (kwx_call (I1.kIn _ _ hC) ve (PySem.W.looks_findIn I1.kIn iC) (fun self => PySem.W.bind_fn I1.kIn self tI) (codeAny_mono body fun r s' back => ?_))
    match r, back with
    | .error e, back => exact hx pins σ _ _ e s' I2 back
    | .ok (.ret u), back =>
      obtain ⟨h2, g2, d2, t2, os'⟩ := s'
      obtain ⟨_, H2, os2, bare2, un2, hok2, rv, rfl, d, fs, ea, ed, hd, q2⟩ := back
      exact ⟨rv, mk_end (raises_own D.oex.exC D.oex.tyC) I1 up stay un2 hok2 os2 bare2 ea ed hd q2⟩
  · refine ⟨_, zs, rfl, l, D.oex, D.no, upd_same, fun dx H' n ne ea ed rest => ⟨rfl, dx, _, ea, ed, ?_, q _ dx _ free ?_ upd_same fun b hb => ?_⟩⟩
    · rw [upd_ne ne] at n; exact n
    · rw [upd_ne ne] at n; exact n
    · rw [upd_ne hb]
      by_cases h : b = hp.objs.size + 1
      · rw [h, del_same, free]
      · rw [del_ne h, rest b h hb, upd_ne h]
end
/-! ### the M-rule -/
def mRaiseK (C : Str) (ks : List Str) (ms : M (List T)) : M Fl := fun st => (ms st).bind fun ts st1 => (mTakes ts st1).bind fun vs st2 => if vs.length = ks.length ∧ ks ≠ [] then .exc ⟨C, (ks.zip vs).reverse⟩ st2 else .bad
abbrev SK (X : Cx) (W : WX) (kws : List Keyword) (m : M (List T)) : Prop := PK X kws (sA X.K X.mg W m)
theorem kw_0 {X : Cx} {W : WX} : SK X W [] mA0 := ⟨fun pos pins s σ H Q I ⟨g, st, r, p⟩ => pk_nil.run pos pins s σ H Q I (p g _ H Ext.refl r .nil)⟩
theorem kw_1 {X : Cx} {W : WX} {e : Expr} {kws : List Keyword} {nm : Option Str} {kpos : Pos} {m : M T} {ms : M (List T)} (ha : SE X W e m) (hr : SK X W kws ms) : SK X W (⟨nm, e, kpos⟩ :: kws) (mA1 m ms) :=
  ⟨fun pos pins s σ H Q I ⟨g, st, r, p⟩ => (pk_cons ha hr).run pos pins s σ H Q I ⟨g, st, r, Pst.bind Ext.refl p fun g2 w H2 t st2 e2 _ r2 q2 p2 => ⟨g2, st2, r2, Pst.bind e2 p2 fun g3 ws H3 ts st3 e3 e3' r3 q3 p3 =>
    p3 g3 _ H3 e3 r3 (.cons (TR.rel.ext r2.wf e3' q2) (TRs.rel.sh e2 q3))⟩⟩⟩
theorem zip_map1 : ∀ {ks : List Str} {vs : List V}, vs.length = ks.length → (ks.zip vs).map (·.1) = ks ∧ (ks.zip vs).map (·.2) = vs
  | [], [], _ => ⟨rfl, rfl⟩
  | k :: ks, v :: vs, h => by
    have := zip_map1 (ks := ks) (vs := vs) (by simpa using h)
    exact ⟨by rw [List.zip_cons_cons, List.map_cons, this.1], by rw [List.zip_cons_cons, List.map_cons, this.2]⟩
theorem zip_map2 : ∀ {ks : List Str} {vs : List Val}, vs.length = ks.length → (ks.zip vs).map (·.1) = ks ∧ (ks.zip vs).map (·.2) = vs
  | [], [], _ => ⟨rfl, rfl⟩
  | k :: ks, v :: vs, h => by
    have := zip_map2 (ks := ks) (vs := vs) (by simpa using h)
    exact ⟨by rw [List.zip_cons_cons, List.map_cons, this.1], by rw [List.zip_cons_cons, List.map_cons, this.2]⟩
theorem VRs.snoc {K : PySem.W.Frag} {g : G} {H : Hp} : ∀ {vs us : List Val} {ws xs : List V}, VRs K g H vs ws → VRs K g H us xs → VRs K g H (vs ++ us) (ws ++ xs)
  | [], us, ws, xs, h, h' => by unfold VRs at h; subst h; exact h'
  | v :: vs, us, ws, xs, h, h' => by
    unfold VRs at h
    obtain ⟨w, r, rfl, h1, h2⟩ := h
    exact VRs.cons h1 (VRs.snoc h2 h')
theorem VRs.rev {K : PySem.W.Frag} {g : G} {H : Hp} : ∀ {vs : List Val} {ws : List V}, VRs K g H vs ws → VRs K g H vs.reverse ws.reverse
  | [], ws, h => by unfold VRs at h; subst h; exact VRs.nil
  | v :: vs, ws, h => by
    unfold VRs at h
    obtain ⟨w, r, rfl, h1, h2⟩ := h
    rw [List.reverse_cons, List.reverse_cons]
    exact VRs.snoc (VRs.rev h2) (VRs.cons h1 VRs.nil)
theorem SPst.takes {K : PySem.W.Frag} {mg : Str → Option Value} {g g1 : G} {H H1 : Hp} {st1 : MS} {σ : L2.St} {W : WX} {D : Ends} {ts : List T} {ws : List V} {k : List Val → M Fl} (e : Ext g H g1 H1) (r : R K g1 st1 σ H1) (q : TRs K g H g1 H1 σ ts ws)
    (h : SPst K mg W g H ((mTakes ts st1).bind k) D) : ∃ g2 st2 vs, Ext g H g2 H1 ∧ R K g2 st2 σ H1 ∧ VRs K g2 H1 vs ws ∧ SPst K mg W g H (k vs st2) D := by
  rcases h1 : mTakes ts st1 with ⟨vs, s⟩ | ⟨x, s⟩ | _ <;> rw [h1] at h
  · obtain ⟨g2, e2, r2, v2, _⟩ := takes_ok e r (prd_map (fun _ _ z => z.tw) q) h1
    exact ⟨g2, s, vs, e2, r2, v2, h⟩
  · exact (takes_noexc h1).elim
  · exact h.elim
theorem k_raiseK {X : Cx} {W : WX} {C : Str} {ks : List Str} {kws : List Keyword} {ms : M (List T)} {p p3 pos : Pos} (hc : X.calm = true) (tk : Takes X W) (D : XkOk X.prog X.w X.K X.mg X.base C ks) (hr : Room 2 X.A) (hg : Gl X C) (hk : SK X W kws ms)
    (hdb : (C == ("__debug__" : Str)) = false := by decide) (hall : (backToKw p3 (keywordEach kws X.env)).all (·.1.isSome) = true := by rfl) (hks : (backToKw p3 (keywordEach kws X.env)).filterMap (·.1) = ks := by rfl)
    (hpl : ((backTo p3 (starEach [] X.env)).any (·.1) || (backToKw p3 (keywordEach kws X.env)).any (·.1.isNone)) = false := by rfl) :
    SS X W (.Raise (some (.Call (.Name C p) [] kws p3)) none pos) (mRaiseK C ks ms) :=
  (ps_raise hc tk (pmk_kw D hr (passes_call L2.takes0 fun _ _ _ _ z => z) hg hdb hk hall hks hpl)).im fun Ds σ H ⟨g, st, r, q⟩ => ⟨g, st, r, SPst.bind (RelA := TRs X.K) Ext.refl q fun g2 ws H2 ts st2 e2 _ r2 q2 p2 => by
    obtain ⟨g3, st3, vs, e3, r3, v3, p3⟩ := SPst.takes e2 r2 q2 p2
    split at p3
    · rename_i hl
      have lw : ws.length = ks.length := by rw [← hl.1]; exact v3.length.symm
      refine ⟨lw, fun a d H3 na nd hd rest => ?_⟩
      have ad : Add H2 H3 := fun b o e => by rw [rest b (ne_of_none e nd)]; exact e
      refine p3 g3 _ _ σ H3 (e3.trans ad.ext) (r3.add ad) ⟨D.mgC, ?_⟩
      have hn : (ks.zip vs).reverse ≠ [] := fun z => by
        have z1 := congrArg List.length z
        rw [List.length_reverse, List.length_zip, hl.1] at z1
        exact hl.2 (List.length_eq_zero_iff.mp (by simpa using z1))
      split
      · rename_i e; exact (hn e).elim
      · refine ⟨d, _, rfl, hd, ?_, ?_⟩
        · rw [List.map_reverse, List.map_reverse, (zip_map1 lw).1, (zip_map2 hl.1).1]
        · rw [List.map_reverse, List.map_reverse, (zip_map1 lw).2, (zip_map2 hl.1).2]
          exact VRs.rev (VRs.add ad _ _ v3)
    · exact p3.elim⟩
end Lk
namespace Lk
open PySem PySem.Spec PyProof.Rows L2 LamX Sm
/-! ### what the written part must say of such a class -/
def oexB (K : PySem.W.Frag) (C : Addr) : Bool := match K.lookup C with
  | some ⟨.type "type", _, .cls cd, sl⟩ => (match cd.mro, sl.toList with
    | .ref C' :: bm, [_, _, _, _, some (.builtin n), _] => (C' == C && (n == "ValueError.__new__" && cd.hasDict)) && (!cd.hasDel && PySem.HandSPX.refsVE bm)
    | _, _ => false)
  | _ => false
theorem oexB_ok {K : PySem.W.Frag} {C : Addr} (h : oexB K C = true) : ∃ nm q N bs bm sn sub ab col dd k0 k1 k2 k3 k5, K.lookup C = some (excClassObj nm q C N bs bm true sn sub ab col dd k0 k1 k2 k3 k5 "ValueError.__new__") ∧ PySem.HandSPX.refsVE bm = true := by
  unfold oexB at h
  split at h <;> try cases h
  rename_i d cd sl lk
  split at h <;> try cases h
  rename_i C' bm k0 k1 k2 k3 n k5 hm hs
  simp only [Bool.and_eq_true, beq_iff_eq, Bool.not_eq_true'] at h
  obtain ⟨⟨rfl, rfl, hd⟩, hl, ve⟩ := h
  obtain ⟨nm, bs, mro, ns, qn, hd', sn, sub, ab, col, del⟩ := cd
  obtain ⟨sl⟩ := sl
  dsimp only at hm hd hl hs
  subst hm hd hl hs
  exact ⟨nm, qn, ns, bs, bm, sn, sub, ab, col, _, k0, k1, k2, k3, k5, lk, ve⟩
structure XkF (K : PySem.W.Frag) (mg : Str → Option Value) (C : Str) (ks : List Str) : Prop where
  mgC : mg C = some (.ref (He.ga K C))
  oex : OexC K (He.ga K C)
  no : ∀ k ∈ ks, PySem.W.findIn K (.ref (He.ga K C)) k = some none
  iC : PySem.W.findIn K (.ref (He.ga K C)) "__init__" = some (some (.ref (He.ma K (He.ga K C) "__init__")))
  tI : PySem.W.typeIn K (.ref (He.ma K (He.ga K C) "__init__")) = some (.type "function")
def xkB (K : PySem.W.Frag) (C : Str) (ks : List Str) : Bool :=
  decide (PySem.W.nsIn K PySem.mainGlobals C = some (some (.ref (He.ga K C))) ∧ PySem.W.findIn K (.ref (He.ga K C)) "__setattr__" = some (some (.builtin "object.__setattr__")) ∧ PySem.W.subIn K (.ref (He.ga K C)) (.type "BaseException") = some true ∧
    PySem.W.typeIn K (.ref (He.ga K C)) = some (.type "type") ∧ PySem.W.findIn K (.ref (He.ga K C)) "__init__" = some (some (.ref (He.ma K (He.ga K C) "__init__"))) ∧ PySem.W.typeIn K (.ref (He.ma K (He.ga K C) "__init__")) = some (.type "function")) &&
  (oexB K (He.ga K C) && (PySem.W.keepIn K (.ref (He.ga K C)) && ks.all fun k => decide (PySem.W.findIn K (.ref (He.ga K C)) k = some none)))
theorem xkB_ok {K : PySem.W.Frag} {h : Heap} {mg : Str → Option Value} {C : Str} {ks : List Str} (X : K.In h) (G : h.Ns PySem.mainGlobals mg) (e : xkB K C ks = true) : XkF K mg C ks := by
  simp only [xkB, Bool.and_eq_true, decide_eq_true_eq, List.all_eq_true] at e
  obtain ⟨⟨e1, e2, e3, e4, e5, e6⟩, e7, e8, e9⟩ := e
  exact ⟨PySem.W.mg_of X G e1, ⟨oexB_ok e7, e2, e3, e4, e8⟩, e9, e5, e6⟩
def baseIB (K : PySem.W.Frag) (B : Str) : Bool :=
  decide (PySem.W.nsIn K PySem.mainGlobals B = some (some (.ref (He.ga K B))) ∧ PySem.W.specialIn K (.ref (He.ga K B)) "__getattribute__" = some (some (.builtin "type.__getattribute__"))) &&
  (PySem.W.readsIn K (He.ga K B) (.type "type") && (match PySem.W.findCls K (.ref (He.ga K B)) (.type "type") "__init__" with
    | some (.val v) => decide (v = .builtin "ValueError.__init__")
    | _ => false))
theorem baseIB_ok {K : PySem.W.Frag} {h : Heap} {mg : Str → Option Value} {B : Str} (X : K.In h) (G : h.Ns PySem.mainGlobals mg) (e : baseIB K B = true) : BaseI K mg B := by
  simp only [baseIB, Bool.and_eq_true, decide_eq_true_eq] at e
  obtain ⟨⟨e1, e2⟩, e3, e4⟩ := e
  split at e4 <;> try cases e4
  rename_i v hv
  exact ⟨PySem.W.mg_of X G e1, e3, e2, by rw [hv, of_decide_eq_true e4]⟩
theorem XkF.ok {P : Program} {w : World} {K : PySem.W.Frag} {mg : Str → Option Value} {base : Heap} {C : Str} {ks : List Str} {fd : FuncData} (F : XkF K mg C ks) (I : FnOk P w K mg base (L2.CX P w) 1 (He.ma K (He.ga K C) "__init__") fd (("self" : Str) :: ks) (spXI K (He.ga K C) ks))
    (B : KBn K fd (("self" : Str) :: ks) 1 ks (· ++ ·) (· ++ ·)) : XkOk P w K mg base C ks := ⟨F.mgC, F.oex, F.no, _, fd, F.iC, F.tI, I, B⟩
end Lk

namespace Lk
open PySem PySem.Spec PyProof.Rows L2
/-! ### set(xs), xs a list of ints -/
abbrev set0 (w : World) : Obj := { cls := .type "set", dict := none, data := .set #[] 0 (.fresh 0 0 (!w.params.followText "set-order")) }
section
variable {P : Program} {w : World} {A : Around} {E : Value → Shared → Prop} {s : Shared} {l : Addr} {items : Array Value} {ns : List Int}
/-- set.__init__ on the empty set at the end of the heap -/
theorem set_fill {Q : Value → Shared → Prop} (hh : A.handled = none) (hl : s.heap.IsList l items) (hi : IntsAre items.toList ns) (few : ns.length + 1 < scanBound)
    (h : ∀ (h' : Heap) (tk c : Nat), SetR w h' s.heap.objs.size (fun j => decide (j ∈ ns)) c → c ≤ ns.length → (∀ b o, s.heap.get? b = some o → h'.get? b = some o) → Q .none { s with heap := h', toks := tk }) :
    codeAny (model P w) A (.call (.builtin "set.__init__") ⟨[.ref s.heap.objs.size, .ref l], []⟩) (wants Q E) { s with heap := s.heap.push (set0 w) } := by
  have size : items.size = ns.length := by rw [← Array.length_toList]; exact IntsAre.length hi
  have l0 : l < s.heap.objs.size := by obtain ⟨_, e, _⟩ := hl; exact Heap.lt_size e
  have at0 : (s.heap.push (set0 w)).get? s.heap.objs.size = some (set0 w) := Heap.get?_push_size _ rfl
  have end1 : (s.heap.push (set0 w)).objs.size = s.heap.objs.size + 1 := Heap.size_push ..
  have src : (s.heap.push (set0 w)).IsList l items := hl.push _
  refine codeAny_call_builtin F.called_set.init.plain F.entry_set_init (check_set_init_1 (s := { s with heap := s.heap.push (set0 w) }) ⟨_, at0, rfl⟩ ?_)
  have src' := src
  obtain ⟨⟨oc, od, oo, os⟩, get, cls, n, dat⟩ := src'
  obtain rfl : oc = .type "list" := cls
  obtain rfl : oo = .seq items n := dat
  have no1 := F.sub_list_set
  have no2 := F.sub_list_frozenset
  have no3 : (Value.type "list" == Value.type "dict") = false := by decide
  unfold Builtin.«set.__init__» noKeywords Builtin.Frozenset.updateFrom
  generalize it : pyIter = PI
  wp_walk
  subst it
  refine wpAny_pyIter_list src (wpAny_bind (wpAny_runValue ?_))
  have ne : l ≠ (s.heap.push (set0 w)).objs.size := end1 ▸ Nat.ne_of_lt (Nat.lt_succ_of_lt l0)
  have vals : ∀ (i : Nat) (v : Value), items[i]? = some v → ∃ k t, ns[i]? = some k ∧ v = .int k t := fun i v e => by
    obtain ⟨t, q⟩ := IntsAre.int_at hi i v (by rw [Array.getElem?_toList]; exact e)
    have lt : i < ns.length := size ▸ (Array.getElem?_eq_some_iff.mp e).1
    exact ⟨_, t, List.getElem?_eq_getElem lt, by rw [q, List.getD_eq_getElem?_getD, List.getElem?_eq_getElem lt] <;> rfl⟩
  refine set_update_ints ((Walks.list (by simp [hh]) _ l ne items).toS) s.heap.objs.size (fun z => (List.mem_cons.mp z).elim (fun z => Nat.ne_of_lt (Nat.lt_succ_self _) (z.trans end1)) fun z => Nat.ne_of_gt l0 (List.mem_singleton.mp z)) ns size few vals (items.size - 0) 0 _ (by omega) (Nat.zero_le _) ⟨⟨_, Heap.get?_push_size _ rfl, rfl, rfl⟩, src.push _⟩
    ⟨0, Nat.le_refl 0, setR_new_at (Heap.get?_push_of_some _ at0)⟩ ?_
  rintro ⟨h', g', d', tk', o'⟩ c mv le S
  obtain rfl : g' = s.gens := mv.gens
  obtain rfl : d' = s.drawn := mv.drawn
  obtain rfl : o' = s.os := mv.os
  show wpAny _ _ _ _ _ _
  refine wpAny_pure ?_
  show wpAny _ _ (ret Value.none) _ _ _
  refine wpAny_pure (h h' tk' c S (size ▸ le) fun b o e => mv.heap b o ?_ (Heap.get?_push_of_some _ (Heap.get?_push_of_some _ e)))
  have lt := Heap.lt_size e
  exact fun z => (List.mem_cons.mp z).elim (fun z => Nat.ne_of_lt lt z) fun z => Nat.ne_of_lt (Nat.lt_succ_of_lt lt) ((List.mem_singleton.mp z).trans end1)
/-- T(x): what the call of a type stands for -/
theorem type_opened {T : String} {x : Value} {Q : Value → Shared → Prop} (h : wpAny (model P w) A.in1 (Builtin.«type.__call__» ⟨[.type T, x], []⟩) (fun f z => match f with
    | .done r => wants Q E (.ok r) z
    | .again k => k.quiet = true ∧ codeAny (model P w) A k (wants Q E) z) (fun e z => wants Q E (.error e) z) s) : wpAny (model P w) A (call (.type T) [x]) Q E s :=
  wpAny_call (codeAny_of_tree (wpAny_pure ⟨Code.quiet_builtin ⟨_, _⟩ (by decide +kernel), codeAny_builtin F.entry_type_call (Around.under_plain (weight_type_call_type T [x] []) rfl ▸ h)⟩))
theorem call_set_listI {Q : Value → Shared → Prop} (hh : A.handled = none) (hl : s.heap.IsList l items) (hi : IntsAre items.toList ns) (few : ns.length + 1 < scanBound)
    (h : ∀ (h' : Heap) (tk c : Nat), SetR w h' s.heap.objs.size (fun j => decide (j ∈ ns)) c → c ≤ ns.length → (∀ b o, s.heap.get? b = some o → h'.get? b = some o) → Q (.ref s.heap.objs.size) { s with heap := h', toks := tk }) :
    wpAny (model P w) A (call (.type "set") [.ref l]) Q E s := by
  refine type_opened ?_
  have ⟨notType, can, ⟨c, tl, mro⟩, made, _, sub, _⟩ := F.called_set
  have chk := F.typeCall_set_1 (.ref l)
  repeat (any_goals (first | assumption | wp_step))
  refine codeAny_mono (code_set_led1 (.ref l) (E := E) (Q₁ := fun o s1 => o = .ref s.heap.objs.size ∧ s1 = { s with heap := s.heap.push (set0 w) }) ⟨rfl, rfl⟩) ?_
  rintro (e | o | _ | _ | _) s1 r
  case ok.ret =>
    obtain ⟨rfl, rfl⟩ := r
    have isSet : Shared.TypeIs { s with heap := s.heap.push (set0 w) } (.ref s.heap.objs.size) "set" := ⟨_, Heap.get?_push_size _ rfl, rfl⟩
    have look := F.called_set.init.lookup
    have bind := F.called_set.init.bind (.ref s.heap.objs.size)
    repeat (any_goals (first | assumption | wp_step))
    refine codeAny_mono (set_fill (E := E) (Q := fun r s2 => r = .none ∧ ∃ h' tk c, s2 = { s with heap := h', toks := tk } ∧ SetR w h' s.heap.objs.size (fun j => decide (j ∈ ns)) c ∧ c ≤ ns.length ∧ ∀ b o, s.heap.get? b = some o → h'.get? b = some o) hh hl hi few
      fun h' tk c z1 z2 z3 => ⟨rfl, h', tk, c, rfl, z1, z2, z3⟩) ?_
    rintro (e | o | _ | _ | _) s2 r
    case ok.ret =>
      obtain ⟨rfl, h', tk, c, rfl, z1, z2, z3⟩ := r
      repeat (any_goals (first | assumption | wp_step))
      exact h _ _ _ z1 z2 z3
    all_goals first | exact r | exact r.elim
  all_goals first | exact r | exact r.elim
end
end Lk
namespace Lk
open PySem PySem.Spec PyProof.Rows L2 Sm
/-- set(x), x a list or a tuple of ints -/
def rSetI (K : PySem.W.Frag) (w : World) : List V → Hp → VK → Prop := fun xs H Q => ∃ (l : Addr) (ns : List Int), xs = [.ref l] ∧ (SqL K H l (ns.map V.int) ∨ SqT K H l (ns.map V.int)) ∧ ns.length < 64 ∧
  ∀ (p : Addr) (n : Nat), H p = none → n ≤ ns.length → Q (.ref p) (upd H p (SetO w p (fun j => decide (j ∈ ns)) n))
theorem cr_setI {X : Cx} (hc : X.calm = true) : CallR X (.type "set") (rSetI X.K X.w) := by
  rintro pins s σ H _ us Q I r ⟨l, ns, rfl, sq, few, q⟩
  obtain rfl := Vals.ref1 r
  have room : ns.length + 1 < scanBound := by unfold scanBound; omega
  have fin : ∀ (h' : Heap) (tk c : Nat), SetR X.w h' s.heap.objs.size (fun j => decide (j ∈ ns)) c → c ≤ ns.length → (∀ b o, s.heap.get? b = some o → h'.get? b = some o) → EP X pins σ Q (.ref s.heap.objs.size) { s with heap := h', toks := tk } :=
    fun h' tk c S le k => ⟨.ref _, _, I.laid (t' := tk) k (Nat.le_refl _) (setO_new S), rfl, q _ c (I.hok.fresh (Nat.le_refl _)) le⟩
  rcases sq with sq | sq
  · obtain ⟨its, rel, pl, _⟩ := I.list sq
    exact call_set_listI (I.ok.hd hc) pl.isList (ints_of_vals rel) room fin
  · obtain ⟨its, rel, pt, _⟩ := I.tuple sq
    exact call_set_tupI ns (I.ok.hd hc) (items := its.toArray) pt (ints_of_vals rel) room fin
/-- sorted(set(x)) -/
def rSortSet (K : PySem.W.Frag) (w : World) : V → Hp → VK → Prop := fun x H Q => rSetI K w [x] H fun y H2 => rSortedSet w [y] H2 Q
theorem pe_sortSet {X : Cx} {e : Expr} {te : TE} {p1 p2 p3 p4 : Pos} (hc : X.calm = true) (he : PE X e te) (hg : Gl X "sorted") (hm : X.mg "sorted" = none) (hg2 : Gl X "set") (hm2 : X.mg "set" = none) (hs : starEach [e] X.env = (false, eval e X.env) :: starEach [] X.env := by rfl) :
    PE X (.Call (.Name "sorted" p1) [.Call (.Name "set" p2) [e] [] p3] [] p4) (tUn (rSortSet X.K X.w) te) :=
  pe_callB (cr_sortedSet hc) hg hm (by decide +kernel) (pa_cons (pe_callTy (cr_setI hc) hg2 hm2 (by decide +kernel) (pa_cons he pa_nil hs) (he := hs)) pa_nil)
/-- rising, each once -/
def insU (x : Int) : List Int → List Int
  | [] => [x]
  | y :: ys => if x < y then x :: y :: ys else if x = y then y :: ys else y :: insU x ys
def uniqI : List Int → List Int
  | [] => []
  | x :: xs => insU x (uniqI xs)
theorem insU_mem (x k : Int) : ∀ ys : List Int, k ∈ insU x ys ↔ k = x ∨ k ∈ ys
  | [] => by simp [insU]
  | y :: ys => by
    unfold insU
    split
    · simp
    split
    · rename_i e; subst e; simp
    · simp only [List.mem_cons, insU_mem x k ys]
      constructor <;> (intro h; rcases h with h | h | h <;> simp [h])
theorem uniqI_mem (k : Int) : ∀ xs : List Int, k ∈ uniqI xs ↔ k ∈ xs
  | [] => by simp [uniqI]
  | x :: xs => by unfold uniqI; rw [insU_mem, uniqI_mem k xs, List.mem_cons]
theorem insU_lt (x : Int) : ∀ {ys : List Int}, ys.Pairwise (· < ·) → (insU x ys).Pairwise (· < ·)
  | [], _ => by simp [insU]
  | y :: ys, h => by
    unfold insU
    split
    · rename_i lt
      exact List.pairwise_cons.mpr ⟨fun z hz => (List.mem_cons.mp hz).elim (fun e => e ▸ lt) fun hz => Int.lt_trans lt ((List.pairwise_cons.mp h).1 z hz), h⟩
    split
    · exact h
    · refine List.pairwise_cons.mpr ⟨fun z hz => ?_, insU_lt x (List.pairwise_cons.mp h).2⟩
      rcases (insU_mem x z ys).mp hz with e | hz
      · omega
      · exact (List.pairwise_cons.mp h).1 z hz
theorem uniqI_lt : ∀ xs : List Int, (uniqI xs).Pairwise (· < ·)
  | [] => .nil
  | x :: xs => insU_lt x (uniqI_lt xs)
theorem lt_ext : ∀ {xs ys : List Int}, xs.Pairwise (· < ·) → ys.Pairwise (· < ·) → (∀ k, k ∈ xs ↔ k ∈ ys) → xs = ys
  | [], [], _, _, _ => rfl
  | [], y :: ys, _, _, h => absurd ((h y).mpr List.mem_cons_self) (by simp)
  | x :: xs, [], _, _, h => absurd ((h x).mp List.mem_cons_self) (by simp)
  | x :: xs, y :: ys, hx, hy, h => by
    rw [List.pairwise_cons] at hx hy
    have e : x = y := by
      have h1 := List.mem_cons.mp ((h x).mp List.mem_cons_self)
      have h2 := List.mem_cons.mp ((h y).mpr List.mem_cons_self)
      rcases h1 with e | h1
      · exact e
      rcases h2 with e | h2
      · exact e.symm
      · have := hx.1 y h2
        have := hy.1 x h1
        omega
    subst e
    rw [lt_ext hx.2 hy.2 fun k => ⟨fun hk => ?_, fun hk => ?_⟩]
    · rcases List.mem_cons.mp ((h k).mp (List.mem_cons_of_mem _ hk)) with e | z
      · have := hx.1 k hk
        omega
      · exact z
    · rcases List.mem_cons.mp ((h k).mpr (List.mem_cons_of_mem _ hk)) with e | z
      · have := hy.1 k hk
        omega
      · exact z
def fSortSet : Val → Option T := fun v => (match v with
  | .lst vs => intsOf vs
  | .tup vs => intsOf vs
  | _ => none).bind fun ns => if ns.length < 64 then some (.own ((uniqI ns).map .int)) else none
theorem p_sortSet {K : PySem.W.Frag} {w : World} : P1 K (rSortSet K w) fSortSet := by
  intro g H v x t Q wf hv e q
  unfold fSortSet at e
  rw [Option.bind_eq_some_iff] at e
  obtain ⟨ns, e1, e2⟩ := e
  split at e2 <;> try cases e2
  rename_i few
  have src : ∃ a, x = .ref a ∧ (SqL K H a (ns.map V.int) ∨ SqT K H a (ns.map V.int)) := by
    split at e1
    · rename_i vs
      obtain ⟨a, ws, rfl, k1, k2⟩ := vw_lst hv
      cases intsOf_ok k2 e1
      exact ⟨a, rfl, .inl (SqL.of k1)⟩
    · rename_i vs
      have hv : VR K g H (.tup vs) x := hv
      unfold VR at hv
      obtain ⟨a, ws, rfl, k1, k2⟩ := hv
      cases intsOf_ok k2 e1
      exact ⟨a, rfl, .inr (SqT.of k1)⟩
    · cases e1
  obtain ⟨a, rfl, sq⟩ := src
  refine ⟨a, ns, rfl, sq, few, fun p n np le => ⟨p, _, n, rfl, upd_same, Nat.lt_of_le_of_lt le few, fun ns' p' lt mem _ np' => ?_⟩⟩
  have : ns' = uniqI ns := lt_ext lt (uniqI_lt ns) fun k => by rw [mem k, uniqI_mem]; simp
  subst this
  have ne : p' ≠ p := fun z => by rw [z, upd_same] at np'; cases np'
  have np2 : H p' = none := by rwa [upd_ne ne] at np'
  have ad : Add H (upd (upd H p (SetO w p (fun j => decide (j ∈ ns)) n)) p' (.lst ((uniqI ns).map V.int))) := (Add.upd np).trans (Add.upd np')
  exact q _ _ ad ⟨p', _, rfl, np2, upd_same, VRs.ints _⟩
theorem s_sortSet {X : Cx} {W : WX} {e : Expr} {m : M T} {p1 p2 p3 p4 : Pos} (hc : X.calm = true) (he : SE X W e m) (hg : Gl X "sorted") (hm : X.mg "sorted" = none) (hg2 : Gl X "set") (hm2 : X.mg "set" = none) (hs : starEach [e] X.env = (false, eval e X.env) :: starEach [] X.env := by rfl) :
    SE X W (.Call (.Name "sorted" p1) [.Call (.Name "set" p2) [e] [] p3] [] p4) (mOp1 fSortSet m) := (pe_sortSet hc he hg hm hg2 hm2 hs).im fun σ H Q h => tUn_ok p_sortSet h
end Lk

namespace Lk
open PySem PySem.Spec PyProof.Rows L2 Sm
/-! ### xs[::-1] -/
def fRev : Val → Option T
  | .lst vs => some (.own vs.reverse)
  | _ => none
def rRev (K : PySem.W.Frag) : V → Hp → VK → Prop := fun x H Q => ∃ a xs, x = .ref a ∧ SqL K H a xs ∧ ∀ p, H p = none → Q (.ref p) (upd H p (.lst xs.reverse))
theorem p_rev {K : PySem.W.Frag} : P1 K (rRev K) fRev := by
  intro g H v x t Q wf hv e q
  cases v <;> try cases e
  rename_i vs
  obtain ⟨a, ws, rfl, k1, k2⟩ := vw_lst hv
  exact ⟨a, ws, rfl, SqL.of k1, fun p n => q _ _ (Add.upd n) (newLst wf (VRs.rev k2) n)⟩
theorem s_rev {X : Cx} {W : WX} {e : Expr} {m : M T} {k : Nat} {p1 p2 p3 pos : Pos} (he : SE X W e m) : SE X W (.Subscript e (.Slice none none (some (.UnaryOp .USub (.Constant (.int 1) k p1) p2)) p3) pos) (mOp1 fRev m) :=
  (pe_revL he).im fun σ H Q h => tUn_ok (rel := rRev X.K) p_rev h
end Lk

namespace Lk
open PySem
/-! ### the Hook of the end, which looks at the interpreter's own statics too -/
section
variable {n : Nat} {fa : List He.Fa} {fn : List He.DefD} {tf : List He.Defn} {ex : PySem.W.Frag → Bool}
def obsK (fa : List He.Fa) (fn : List He.DefD) (tf : List He.Defn) (ex : PySem.W.Frag → Bool) (g : Addr → Option Obj) (K : PySem.W.Frag) : He.AlX := (He.obsT fa fn [] K, ex K && He.tabsB g tf K)
def obsS (n : Nat) (fa : List He.Fa) (fn : List He.DefD) (tf : List He.Defn) (ex : PySem.W.Frag → Bool) (g : Addr → Option Obj) : He.AlX := obsK fa fn tf ex g (He.frT g (He.asD g n ++ [cStatics]))
theorem saysK {as : List Addr} {w : World} {h : Heap} (e : obsK fa fn tf ex h.get? (He.frT h.get? as) = He.valX fn [] w) : He.SaysX fa fn [] tf ex w h (He.frT h.get? as) := by
  have none := fun {a : Addr} {o : Obj} => He.frT_none (g := h.get?) (as := as) (a := a) (o := o)
  generalize He.frT h.get? as = K at e none
  obtain ⟨e1, e2⟩ := Prod.mk.inj e
  rw [Bool.and_eq_true] at e2
  have tab : ∀ p ∈ tf, PySem.W.codeHdIn K (He.cT K p).1 (He.cT K p).2 = true ∧ ∃ o, h.get? (He.cT K p).2 = some o ∧ He.emptyTab o = true := fun p hp => by
    have z := List.all_eq_true.mp e2.2 p hp
    rw [Bool.and_eq_true] at z
    refine ⟨z.1, ?_⟩
    cases q : h.get? (He.cT K p).2 with
    | none => rw [q] at z; exact absurd z.2 (by decide)
    | some o => rw [q] at z; exact ⟨o, rfl, z.2⟩
  exact { t := e1, more := e2.1, hd := fun p hp => (tab p hp).1, out := fun p hp => (tab p hp).2.elim fun o z => none z.1 z.2, empty := fun p hp => (tab p hp).2.elim fun o z => z.1.trans (congrArg some (He.emptyTab_eq z.2)) }
def hookS (n : Nat) (fa : List He.Fa) (fn : List He.DefD) (tf : List He.Defn) (ex : PySem.W.Frag → Bool) : PySem.W.Hook where
  α := He.AlX
  obs := fun s => obsS n fa fn tf ex s.heap.get?
  val := fun w => He.valX fn [] w
  says := fun w h => ∃ K : PySem.W.Frag, K.In h ∧ He.SaysX fa fn [] tf ex w h K
  of := fun _ _ e => ⟨_, He.frT_in, saysK e⟩
  keeps := fun _ _ _ ⟨K, hK, c⟩ k => ⟨K, PySem.W.Frag.In.keeps hK k, { c with empty := fun p hp => k _ _ (c.empty p hp) }⟩
theorem obsS_eq {g : Addr → Option Obj} {s : Shared} (h : ∀ a, g a = s.heap.get? a) : obsS n fa fn tf ex g = (hookS n fa fn tf ex).obs s := by
  obtain rfl : g = s.heap.get? := funext h
  rfl
end
end Lk

namespace Sm
open PySem L2 Lk
/-! ### x, y, z, u = a, b, c, d: through a tuple -/
def mPar4 (i j l n : Nat) (ma mb mc md : M T) : M Fl := fun st => (ma st).bind fun t1 st1 => (mb st1).bind fun t2 st2 => (mc st2).bind fun t3 st3 => (md st3).bind fun t4 st4 => match t1, t2, t3, t4 with
  | .loc _, _, _, _ => .bad
  | _, .loc _, _, _ => .bad
  | _, _, .loc _, _ => .bad
  | _, _, _, .loc _ => .bad
  | t1, t2, t3, t4 => okU ((mGN i t1 st4).bind fun _ st5 => (mGN j t2 st5).bind fun _ st6 => (mGN l t3 st6).bind fun _ st7 => mGN n t4 st7)
section
variable {X : Cx} {W : WX} {a b c d : Expr} {ma mb mc md : M T} {pos : Pos}
theorem k_par4 {i j l n : Nat} {x y z u : Str} {px py pz pu pt : Pos} {kt k2 pt2} (hc : X.calm = true) (hN : X.N.Nodup) (ha : SE X W a ma) (hb : SE X W b mb) (hcc : SE X W c mc) (hd : SE X W d md) (hi : X.N[i]? = some x := by rfl) (hj : X.N[j]? = some y := by rfl) (hl : X.N[l]? = some z := by rfl) (hn : X.N[n]? = some u := by rfl)
    (hx : Loc X.env.scope x := by first | exact .inl rfl | exact .inr rfl) (fx : X.fn x = true ∨ X.env.scope.names.lookup x = some .local := by first | exact .inl rfl | exact .inr rfl)
    (hy : Loc X.env.scope y := by first | exact .inl rfl | exact .inr rfl) (fy : X.fn y = true ∨ X.env.scope.names.lookup y = some .local := by first | exact .inl rfl | exact .inr rfl)
    (hz : Loc X.env.scope z := by first | exact .inl rfl | exact .inr rfl) (fz : X.fn z = true ∨ X.env.scope.names.lookup z = some .local := by first | exact .inl rfl | exact .inr rfl)
    (hu : Loc X.env.scope u := by first | exact .inl rfl | exact .inr rfl) (fu : X.fn u = true ∨ X.env.scope.names.lookup u = some .local := by first | exact .inl rfl | exact .inr rfl)
    (hw : swappedStores [.Tuple [.Name x px, .Name y py, .Name z pz, .Name u pu] kt pt] (.Tuple [a, b, c, d] k2 pt2) X.env = pure none := by rfl) (hs : swapsWithSole [.Tuple [.Name x px, .Name y py, .Name z pz, .Name u pu] kt pt] (.Tuple [a, b, c, d] k2 pt2) pos.line X.env = pure false := by rfl)
    (hh : (assignEach [.Tuple [.Name x px, .Name y py, .Name z pz, .Name u pu] kt pt] X.env).map (fun x => x.2) = [assign (.Tuple [.Name x px, .Name y py, .Name z pz, .Name u pu] kt pt) X.env] := by rfl)
    (h1 : ((assignEach [.Name x px, .Name y py, .Name z pz, .Name u pu] X.env).map fun x => x.2) = assign (.Name x px) X.env :: (assignEach [.Name y py, .Name z pz, .Name u pu] X.env).map fun x => x.2 := by rfl)
    (h2 : ((assignEach [.Name y py, .Name z pz, .Name u pu] X.env).map fun x => x.2) = assign (.Name y py) X.env :: (assignEach [.Name z pz, .Name u pu] X.env).map fun x => x.2 := by rfl)
    (h3 : ((assignEach [.Name z pz, .Name u pu] X.env).map fun x => x.2) = assign (.Name z pz) X.env :: (assignEach [.Name u pu] X.env).map fun x => x.2 := by rfl)
    (h4 : ((assignEach [.Name u pu] X.env).map fun x => x.2) = assign (.Name u pu) X.env :: (assignEach [] X.env).map fun x => x.2 := by rfl)
    (hn4 : (assignEach [.Name x px, .Name y py, .Name z pz, .Name u pu] X.env).length = 4 := by rfl) (hf : (assignEach [.Name x px, .Name y py, .Name z pz, .Name u pu] X.env).findIdx? (fun x => x.1) = none := by rfl)
    (hst : starEach [a, b, c, d] X.env = (false, eval a X.env) :: starEach [b, c, d] X.env := by rfl) (hst2 : starEach [b, c, d] X.env = (false, eval b X.env) :: starEach [c, d] X.env := by rfl) (hst3 : starEach [c, d] X.env = (false, eval c X.env) :: starEach [d] X.env := by rfl) (hst4 : starEach [d] X.env = (false, eval d X.env) :: starEach [] X.env := by rfl) :
    SS X W (.Assign [.Tuple [.Name x px, .Name y py, .Name z pz, .Name u pu] kt pt] (.Tuple [a, b, c, d] k2 pt2) pos) (mPar4 i j l n ma mb mc md) :=
  (ps_asg (pe_tup (pa_cons ha (pa_cons hb (pa_cons hcc (pa_cons hd pa_nil hst4) hst3) hst2) hst))
    (pg_tup hc (pgs_cons (pg_name hN hi hx fx) (pgs_cons (pg_name hN hj hy fy) (pgs_cons (pg_name hN hl hz fz) (pgs_cons (pg_name hN hn hu fu) pgs_nil h4) h3) h2) h1) hn4 hf) hs hw hh).im fun D σ H ⟨g, st, r, p⟩ =>
    ⟨g, st, r, SPst.bind Ext.refl p fun g2 w H2 t st2 e2 _ r2 q2 p2 => ⟨g2, st2, r2, SPst.bind e2 p2 fun g3 w3 H3 t3 st3 e3 e3' r3 q3 p3 => ⟨g3, st3, r3, SPst.bind e3 p3 fun g4 w4 H4 t4 st4 e4 e4' r4 q4 p4 => ⟨g4, st4, r4, SPst.bind e4 p4 fun g5 w5 H5 t5 st5 e5 e5' r5 q5 p5 => by
      refine ⟨show (4 : Nat) ≤ _ by decide, fun ad had => ?_⟩
      have dd : Add H5 (upd H5 ad (.tup [w, w3, w4, w5])) := Add.upd had
      refine ⟨ad, [w, w3, w4, w5], rfl, SqT.of upd_same, rfl, ⟨_, _, rfl, ⟨_, _, rfl, ⟨_, _, rfl, ⟨_, _, rfl, ⟨rfl, ?_⟩⟩⟩⟩⟩⟩
      have key : (∀ j, t ≠ .loc j) → (∀ j, t3 ≠ .loc j) → (∀ j, t4 ≠ .loc j) → (∀ j, t5 ≠ .loc j) → SPst X.K X.mg W g H (okU ((mGN i t st5).bind fun _ st6 => (mGN j t3 st6).bind fun _ st7 => (mGN l t4 st7).bind fun _ st8 => mGN n t5 st8)) D → D.nx ((((σ.set i (some w)).set j (some w3)).set l (some w4)).set n (some w5)) (upd H5 ad (.tup [w, w3, w4, w5])) := fun n1 n2 n3 n4 p6 => by
        have q23 := TR.rel.ext r2.wf e3' q2
        have q24 := TR.rel.ext r3.wf e4' q23
        have q25 := TR.rel.ext r4.wf e5' q24
        have q34 := TR.rel.ext r3.wf e4' q3
        have q35 := TR.rel.ext r4.wf e5' q34
        have q45 := TR.rel.ext r4.wf e5' q4
        have d13 := ow_ne q2 q3
        have d14 := ow_ne q23 q4
        have d15 := ow_ne q24 q5
        have d34 := ow_ne q3 q4
        have d35 := ow_ne q34 q5
        have d45 := ow_ne q4 q5
        have q2' := TR.rel.ext r5.wf dd.ext (TR.rel.sh Ext.refl q25)
        have q3' := TR.rel.ext r5.wf dd.ext (TR.rel.sh e2 q35)
        have q4' := TR.rel.ext r5.wf dd.ext (TR.rel.sh e3 q45)
        have q5' := TR.rel.ext r5.wf dd.ext (TR.rel.sh e4 q5)
        have r6 := r5.add dd
        have e6 := e5.trans dd.ext
        cases h : mGN i t st5 with
        | bad => rw [h] at p6; exact p6.elim
        | exc x s => exact (gn_noexc n1 h).elim
        | ok u s =>
          rw [h] at p6
          obtain ⟨O, e7, r7, hO⟩ := gn_step e6 r6 q2' n1 h
          have q37 := hO n2 q3' d13
          have q47 := hO n3 q4' d14
          have q57 := hO n4 q5' d15
          cases h2 : mGN j t3 s with
          | bad => rw [show (Out.ok u s).bind (fun _ st6 => (mGN j t3 st6).bind fun _ st7 => (mGN l t4 st7).bind fun _ st8 => mGN n t5 st8) = (mGN j t3 s).bind fun _ st7 => (mGN l t4 st7).bind fun _ st8 => mGN n t5 st8 from rfl, h2] at p6; exact p6.elim
          | exc x s => exact (gn_noexc n2 h2).elim
          | ok u2 s2 =>
            rw [show (Out.ok u s).bind (fun _ st6 => (mGN j t3 st6).bind fun _ st7 => (mGN l t4 st7).bind fun _ st8 => mGN n t5 st8) = (mGN j t3 s).bind fun _ st7 => (mGN l t4 st7).bind fun _ st8 => mGN n t5 st8 from rfl, h2] at p6
            obtain ⟨O2, e8, r8, hO2⟩ := gn_step e7 r7 q37 n2 h2
            have q48 := hO2 n3 q47 d34
            have q58 := hO2 n4 q57 d35
            cases h3 : mGN l t4 s2 with
            | bad => rw [show (Out.ok u2 s2).bind (fun _ st7 => (mGN l t4 st7).bind fun _ st8 => mGN n t5 st8) = (mGN l t4 s2).bind fun _ st8 => mGN n t5 st8 from rfl, h3] at p6; exact p6.elim
            | exc x s => exact (gn_noexc n3 h3).elim
            | ok u3 s3 =>
              rw [show (Out.ok u2 s2).bind (fun _ st7 => (mGN l t4 st7).bind fun _ st8 => mGN n t5 st8) = (mGN l t4 s2).bind fun _ st8 => mGN n t5 st8 from rfl, h3] at p6
              obtain ⟨O3, e9, r9, hO3⟩ := gn_step e8 r8 q48 n3 h3
              have q59 := hO3 n4 q58 d45
              exact gn_ok (F := fAll) (mg := X.mg) (W := W) rfl e9 r9 q59 (SPst.gp p6)
      have nv : ∀ {v : Val} (j : Nat), T.val v ≠ .loc j := fun _ z => by cases z
      have no : ∀ {v : List Val} (j : Nat), T.own v ≠ .loc j := fun _ z => by cases z
      rcases t with v | v | v
      all_goals rcases t3 with v3 | v3 | v3
      all_goals rcases t4 with v4 | v4 | v4
      all_goals rcases t5 with v5 | v5 | v5
      all_goals first
        | exact p5.elim
        | exact key (by first | exact nv | exact no) (by first | exact nv | exact no) (by first | exact nv | exact no) (by first | exact nv | exact no) p5⟩⟩⟩⟩
end
end Sm

namespace Sm
open PySem L2
/-! ### dicts whose keys are nested tuples -/
def lookN (kvs : List (NestedKey × Val)) (k : NestedKey) : Option Val := (kvs.find? fun p => decide (p.1 = k)).map (·.2)
def putNv (kvs : List (NestedKey × Val)) (k : NestedKey) (v : Val) : List (NestedKey × Val) := if (lookN kvs k).isSome = true then kvs.map (fun p => if p.1 = k then (p.1, v) else p) else kvs ++ [(k, v)]
def atV (xs : List (NestedKey × Addr × V)) (k : NestedKey) : Option V := (xs.find? fun x => decide (x.1 = k)).map (·.2.2)
def putV (xs : List (NestedKey × Addr × V)) (k : NestedKey) (b : Addr) (v : V) : List (NestedKey × Addr × V) := if (atV xs k).isSome = true then xs.map (fun x => if x.1 = k then (x.1, x.2.1, v) else x) else xs ++ [(k, b, v)]
abbrev RKp : NestedKey × Addr × V → NestedKey × Addr × Value → Prop := fun p q => p.1 = q.1 ∧ p.2.1 = q.2.1 ∧ RelV p.2.2 q.2.2
theorem atV_pos {x : NestedKey × Addr × V} {xs : List (NestedKey × Addr × V)} {k : NestedKey} (e : x.1 = k) : atV (x :: xs) k = some x.2.2 := by simp [atV, e]
theorem atV_neg {x : NestedKey × Addr × V} {xs : List (NestedKey × Addr × V)} {k : NestedKey} (e : ¬ x.1 = k) : atV (x :: xs) k = atV xs k := by simp [atV, e]
theorem atK_pos {x : NestedKey × Addr × Value} {xs : List (NestedKey × Addr × Value)} {k : NestedKey} (e : x.1 = k) : atKey (x :: xs) k = some x.2 := by simp [atKey, e]
theorem atK_neg {x : NestedKey × Addr × Value} {xs : List (NestedKey × Addr × Value)} {k : NestedKey} (e : ¬ x.1 = k) : atKey (x :: xs) k = atKey xs k := by simp [atKey, e]
theorem rk_at (k : NestedKey) : ∀ {xs : List (NestedKey × Addr × V)} {us : List (NestedKey × Addr × Value)}, Paired RKp xs us → (∃ v p, atV xs k = some v ∧ atKey us k = some p ∧ RelV v p.2) ∨ (atV xs k = none ∧ atKey us k = none)
  | _, _, .nil => .inr ⟨rfl, rfl⟩
  | x :: xs, u :: us, .cons h t => by
    by_cases e : x.1 = k
    · exact .inl ⟨x.2.2, u.2, atV_pos e, atK_pos (h.1.symm.trans e), h.2.2⟩
    · rw [atV_neg e, atK_neg (fun z => e (h.1.trans z))]
      exact rk_at k t
theorem rk_map (k : NestedKey) {v : V} {r : Value} (rv : RelV v r) : ∀ {xs : List (NestedKey × Addr × V)} {us : List (NestedKey × Addr × Value)}, Paired RKp xs us → Paired RKp (xs.map fun x => if x.1 = k then (x.1, x.2.1, v) else x) (us.map (putAt k r))
  | _, _, .nil => .nil
  | x :: xs, u :: us, .cons h t => by
    rw [List.map_cons, List.map_cons]
    refine .cons ?_ (rk_map k rv t)
    unfold putAt
    by_cases e : x.1 = k
    · rw [if_pos e, if_pos (h.1.symm.trans e)]
      exact ⟨h.1, h.2.1, rv⟩
    · rw [if_neg e, if_neg (fun z => e (h.1.trans z))]
      exact h
theorem rk_snoc {p : NestedKey × Addr × V} {q : NestedKey × Addr × Value} (h0 : RKp p q) : ∀ {xs : List (NestedKey × Addr × V)} {us : List (NestedKey × Addr × Value)}, Paired RKp xs us → Paired RKp (xs ++ [p]) (us ++ [q])
  | _, _, .nil => .cons h0 .nil
  | _, _, .cons h t => .cons h (rk_snoc h0 t)
theorem rk_put (k : NestedKey) (b : Addr) {v : V} {r : Value} (rv : RelV v r) {xs : List (NestedKey × Addr × V)} {us : List (NestedKey × Addr × Value)} (h : Paired RKp xs us) : Paired RKp (putV xs k b v) (storedH us k b r) := by
  unfold putV storedH
  rcases rk_at k h with ⟨v', p, e1, e2, _⟩ | ⟨e1, e2⟩
  · rw [e1, e2, if_pos (show (some v').isSome = true from rfl), if_pos (show (some p).isSome = true from rfl)]
    exact rk_map k rv h
  · rw [e1, e2, if_neg (fun z => nomatch z), if_neg (fun z => nomatch z)]
    exact rk_snoc ⟨rfl, rfl, rv⟩ h
theorem rk_mem {P : NestedKey → Addr → Prop} : ∀ {xs : List (NestedKey × Addr × V)} {us : List (NestedKey × Addr × Value)}, Paired RKp xs us → (∀ x ∈ xs, P x.1 x.2.1) → ∀ u ∈ us, P u.1 u.2.1
  | _, _, .nil, _, _, hu => nomatch hu
  | x :: xs, u :: us, .cons h t, hx, w, hw => by
    rcases List.mem_cons.mp hw with rfl | hw
    · have := hx x (.head _)
      rw [← h.1, ← h.2.1]
      exact this
    · exact rk_mem t (fun y hy => hx y (.tail _ hy)) w hw
theorem len_putV (xs : List (NestedKey × Addr × V)) (k : NestedKey) (b : Addr) (v : V) : (putV xs k b v).length ≤ xs.length + 1 := by
  unfold putV
  split
  · rw [List.length_map]; omega
  · rw [List.length_append]; exact Nat.le_refl _
theorem mem_putV {xs : List (NestedKey × Addr × V)} {k : NestedKey} {b : Addr} {v : V} {P : NestedKey → Addr → Prop} (h : ∀ x ∈ xs, P x.1 x.2.1) (hk : P k b) : ∀ x ∈ putV xs k b v, P x.1 x.2.1 := fun x hx => by
  unfold putV at hx
  split at hx
  · obtain ⟨y, hy, rfl⟩ := List.mem_map.mp hx
    have := h y hy
    split
    · exact this
    · exact this
  · rcases List.mem_append.mp hx with hx | hx
    · exact h x hx
    · rw [List.mem_singleton.mp hx]
      exact hk
mutual
/-- at w stands the key k -/
def NK (H : Hp) : NestedKey → V → Prop
  | .none, w => w = .non
  | .num i, w => w = .int i ∨ ∃ b, w = .bl b ∧ i = (if b = true then 1 else 0)
  | .text _, _ => False
  | .tup ks, w => ∃ a ws, w = .ref a ∧ H a = some (.tup ws) ∧ NKs H ks ws
def NKs (H : Hp) : List NestedKey → List V → Prop
  | [], ws => ws = []
  | k :: ks, ws => ∃ w r, ws = w :: r ∧ NK H k w ∧ NKs H ks r
end
mutual
theorem nk_of {K : PySem.W.Frag} {g : G} {H : Hp} : ∀ (v : Val) (k : NestedKey) (w : V), keyN v = some k → VR K g H v w → NK H k w
  | .non, k, w, h, r => by
    unfold keyN at h; cases h
    unfold VR at r; unfold NK; exact r
  | .bl b, k, w, h, r => by
    unfold keyN at h; cases h
    unfold VR at r; unfold NK; exact .inr ⟨b, r, rfl⟩
  | .int i, k, w, h, r => by
    unfold keyN at h; cases h
    unfold VR at r; unfold NK; exact .inl r
  | .tup vs, k, w, h, r => by
    unfold keyN at h
    obtain ⟨ks, h1, rfl⟩ := Option.map_eq_some_iff.mp h
    unfold VR at r
    obtain ⟨a, ws, e, h2, h3⟩ := r
    unfold NK
    exact ⟨a, ws, e, h2, nks_of vs ks ws h1 h3⟩
  | .str _, _, _, h, _ => by unfold keyN at h; cases h
  | .lst _, _, _, h, _ => by unfold keyN at h; cases h
  | .scr _, _, _, h, _ => by unfold keyN at h; cases h
  | .ref _, _, _, h, _ => by unfold keyN at h; cases h
  | .ty _, _, _, h, _ => by unfold keyN at h; cases h
  | .adr _ _ _ _, _, _, h, _ => by unfold keyN at h; cases h
  | .ktup _, _, _, h, _ => by unfold keyN at h; cases h
  | .lam _, _, _, h, _ => by unfold keyN at h; cases h
theorem nks_of {K : PySem.W.Frag} {g : G} {H : Hp} : ∀ (vs : List Val) (ks : List NestedKey) (ws : List V), keyNs vs = some ks → VRs K g H vs ws → NKs H ks ws
  | [], ks, ws, h, r => by
    unfold keyNs at h; cases h
    unfold VRs at r; unfold NKs; exact r
  | v :: vs, ks, ws, h, r => by
    unfold keyNs at h
    split at h
    · rename_i k e
      obtain ⟨ks', h1, rfl⟩ := Option.map_eq_some_iff.mp h
      unfold VRs at r
      obtain ⟨w, r', e2, h2, h3⟩ := r
      unfold NKs
      exact ⟨w, r', e2, nk_of v k w e h2, nks_of vs ks' r' h1 h3⟩
    · cases h
end
mutual
theorem nk_is {P : Program} {w : World} {H : Hp} {h : Heap} (ok : HOk P w H h) : ∀ (k : NestedKey) (x : V) (u : Value), NK H k x → RelV x u → NestedIs h k u
  | .none, x, u, n, r => by
    unfold NK at n; subst n
    rw [show u = Value.none from r]
    exact .none
  | .num i, x, u, n, r => by
    unfold NK at n
    rcases n with rfl | ⟨b, rfl, e⟩
    · obtain ⟨t, rfl⟩ := (show ∃ t, u = Value.int i t from r)
      exact .int i t
    · rw [show u = Value.bool b from r]
      exact .bool e
  | .text _, _, _, n, _ => by unfold NK at n; exact n.elim
  | .tup ks, x, u, n, r => by
    unfold NK at n
    obtain ⟨a, ws, rfl, h1, h2⟩ := n
    rw [show u = Value.ref a from r]
    obtain ⟨_, its, r, o, k1, k2, n, k3⟩ := (show ObjOk P w H h a (.tup ws) from ok a _ h1)
    exact .tup k1 k2 k3 (nks_is ok ks ws its h2 r)
theorem nks_is {P : Program} {w : World} {H : Hp} {h : Heap} (ok : HOk P w H h) : ∀ (ks : List NestedKey) (ws : List V) (us : List Value), NKs H ks ws → Vals ws us → NestedAll h ks us
  | [], ws, us, n, r => by
    unfold NKs at n; subst n
    cases r
    exact .nil
  | k :: ks, ws, us, n, r => by
    unfold NKs at n
    obtain ⟨w', r', rfl, h1, h2⟩ := n
    cases r with
    | cons q t => exact .cons (nk_is ok k w' _ h1 q) (nks_is ok ks r' _ h2 t)
end
mutual
theorem nk_t {H : Hp} : ∀ (k : NestedKey) (x : V), NK H k x → nkT k = true
  | .none, _, _ => by unfold nkT; rfl
  | .num _, _, _ => by unfold nkT; rfl
  | .text _, _, n => by unfold NK at n; exact n.elim
  | .tup ks, x, n => by
    unfold NK at n
    obtain ⟨a, ws, _, _, h2⟩ := n
    unfold nkT
    exact nks_t ks ws h2
theorem nks_t {H : Hp} : ∀ (ks : List NestedKey) (ws : List V), NKs H ks ws → nkTs ks = true
  | [], _, _ => by unfold nkTs; rfl
  | k :: ks, ws, n => by
    unfold NKs at n
    obtain ⟨w', r', _, h1, h2⟩ := n
    unfold nkTs
    rw [nk_t k w' h1, nks_t ks r' h2]
    rfl
end
mutual
theorem hash_t (w w' : World) : ∀ k : NestedKey, nkT k = true → k.hash w = k.hash w'
  | .none, _ => by unfold NestedKey.hash; rfl
  | .num _, _ => by unfold NestedKey.hash; rfl
  | .text _, h => by unfold nkT at h; cases h
  | .tup ks, h => by
    unfold nkT at h
    unfold NestedKey.hash
    rw [hashes_t w w' ks h]
theorem hashes_t (w w' : World) : ∀ ks : List NestedKey, nkTs ks = true → NestedKey.hashes w ks = NestedKey.hashes w' ks
  | [], _ => by unfold NestedKey.hashes; rfl
  | k :: ks, h => by
    unfold nkTs at h
    rw [Bool.and_eq_true] at h
    unfold NestedKey.hashes
    rw [hash_t w w' k h.1, hashes_t w w' ks h.2]
end
section
variable {P : Program} {w : World} {H : Hp} {h : Heap} {a : Addr} {xs : List (NestedKey × Addr × V)}
def KeysOk (H : Hp) (xs : List (NestedKey × Addr × V)) : Prop := ∀ x ∈ xs, NK H x.1 (.ref x.2.1) ∧ x.1.depth ≤ 8
theorem dn_of (ok : HOk P w H h) (e : H a = some (DN a xs)) (hk : KeysOk H xs) : xs.length ≤ sizeLine ∧ (a == sysModules) = false ∧ ∃ us, Paired RKp xs us ∧ h.DictOfH (nestedKind P w) a us := by
  have x : ObjOk P w H h a (DN a xs) := ok a _ e
  obtain ⟨⟨_, h1, h2, us, o, es, ep, h3, h4, h5, h6, h7, h8⟩, _, _⟩ := x
  exact ⟨h2, h1, us, h3, o, es, ep, h4, h5, h6, h7 P w, rk_mem (P := fun k b => (nestedKind P w).is h k b) h3 fun x hx => ⟨nk_is ok _ _ _ (hk x hx).1 rfl, (hk x hx).2⟩, h8⟩
theorem dn_obj {h' : Heap} {us : List (NestedKey × Addr × Value)} {H' : Hp} (ht : ∀ x ∈ xs, nkT x.1 = true) (hd : (a == sysModules) = false) (hl : xs.length ≤ sizeLine) (hp : Paired RKp xs us) (dd : h'.DictOfH (nestedKind P w) a us) : ObjOk P w H' h' a (DN a xs) := by
  obtain ⟨o, es, ep, h4, h5, h6, h7, _, h8⟩ := dd
  refine ⟨⟨ht, hd, hl, us, o, es, ep, hp, h4, h5, h6, fun P' w' => h7.trans (List.map_congr_left fun x hx => ?_), h8⟩, ⟨o, h4⟩, fun h1 h2 z k => ?_⟩
  · have := rk_mem (P := fun k _ => nkT k = true) hp ht x hx
    show DictEntry.mk (x.1.hash w) _ _ = DictEntry.mk (x.1.hash w') _ _
    rw [hash_t w w' x.1 this]
  · obtain ⟨z1, z2, z3, us', o', es', ep', z4, z5, z6⟩ := z
    exact ⟨z1, z2, z3, us', o', es', ep', z4, k _ z5, z6⟩
end
/-- what the dict at a holds at the key y -/
def NGet (H : Hp) (a : Addr) (y : V) (r : Option V) : Prop := ∃ xs k b, H a = some (DN a xs) ∧ KeysOk H xs ∧ y = .ref b ∧ NK H k (.ref b) ∧ k.depth ≤ 8 ∧ r = atV xs k
def NPut (H : Hp) (a : Addr) (y v : V) (H' : Hp) : Prop := ∃ xs k b, H a = some (DN a xs) ∧ KeysOk H xs ∧ y = .ref b ∧ NK H k (.ref b) ∧ k.depth ≤ 8 ∧ xs.length < sizeLine ∧ H' = upd H a (DN a (putV xs k b v))
section
variable {X : Cx} {pins : List (Addr × Obj)} {σ : L2.St} {H : Hp} {s : Shared} {a : Addr} {y v : V} {u r : Value} {o : Option V} {A : Around} {E : Value → Shared → Prop}
theorem n_getItem {Q : Value → Shared → Prop} (hu : A.units + 9 < cLine) (I : Inv X pins σ H s) (g : NGet H a y (some v)) (ry : RelV y u) (h : ∀ w' s', Inv X pins σ H s' → RelV v w' → Q w' s') :
    wpAny (model X.prog X.w) A (getItem (.ref a) u) Q E s := by
  obtain ⟨xs, k, b, e, ko, rfl, nk, hd8, l⟩ := g
  cases (show u = Value.ref b from ry)
  obtain ⟨z, hd, us, rel, dd⟩ := dn_of I.hok e ko
  rcases rk_at k rel with ⟨v', p, e1, e2, rv⟩ | ⟨e1, e2⟩
  · rw [e1] at l
    cases l
    exact wpAny_getItem_heap (knd := nestedKind X.prog X.w) (show A.units + 1 + 8 < cLine by omega) ⟨nk_is I.hok _ _ _ nk rfl, hd8⟩ dd e2 (h _ _ (I.tok _) rv)
  · rw [e1] at l; cases l
theorem n_in {Q : Value → Shared → Prop} (hu : A.units + 9 < cLine) (I : Inv X pins σ H s) (g : NGet H a y o) (ry : RelV y u) (h : ∀ s', Inv X pins σ H s' → Q (.bool o.isSome) s') :
    wpAny (model X.prog X.w) A (compareOp .In u (.ref a)) Q E s := by
  obtain ⟨xs, k, b, e, ko, rfl, nk, hd8, l⟩ := g
  cases (show u = Value.ref b from ry)
  obtain ⟨z, hd, us, rel, dd⟩ := dn_of I.hok e ko
  refine wpAny_in_heap (knd := nestedKind X.prog X.w) (show A.units + 1 + 8 < cLine by omega) ⟨nk_is I.hok _ _ _ nk rfl, hd8⟩ hd dd ?_
  have : (atKey us k).isSome = o.isSome := by
    rw [l]
    rcases rk_at k rel with ⟨v', p, e1, e2, rv⟩ | ⟨e1, e2⟩ <;> rw [e1, e2] <;> rfl
  rw [this]
  exact h _ (I.tok _)
theorem n_notIn {Q : Value → Shared → Prop} (hu : A.units + 9 < cLine) (I : Inv X pins σ H s) (g : NGet H a y o) (ry : RelV y u) (h : ∀ s', Inv X pins σ H s' → Q (.bool (!o.isSome)) s') :
    wpAny (model X.prog X.w) A (compareOp .NotIn u (.ref a)) Q E s := by
  obtain ⟨xs, k, b, e, ko, rfl, nk, hd8, l⟩ := g
  cases (show u = Value.ref b from ry)
  obtain ⟨z, hd, us, rel, dd⟩ := dn_of I.hok e ko
  refine PyProof.Rows.wpAny_notIn_heap (knd := nestedKind X.prog X.w) (show A.units + 1 + 8 < cLine by omega) ⟨nk_is I.hok _ _ _ nk rfl, hd8⟩ hd dd ?_
  have : (atKey us k).isSome = o.isSome := by
    rw [l]
    rcases rk_at k rel with ⟨v', p, e1, e2, rv⟩ | ⟨e1, e2⟩ <;> rw [e1, e2] <;> rfl
  rw [this]
  exact h _ (I.tok _)
theorem n_setItem {H' : Hp} {Q : Unit → Shared → Prop} (hu : A.units + 9 < cLine) (I : Inv X pins σ H s) (g : NPut H a y v H') (ry : RelV y u) (rv : RelV v r) (h : ∀ s', Inv X pins σ H' s' → Q () s') :
    wpAny (model X.prog X.w) A (setItem (.ref a) u r) Q E s := by
  obtain ⟨xs, k, b, e, ko, rfl, nk, hd8, l, rfl⟩ := g
  cases (show u = Value.ref b from ry)
  obtain ⟨z, hd, us, rel, dd⟩ := dn_of I.hok e ko
  have hz : us.length ≤ sizeLine := by rw [← Paired.length rel]; exact z
  have hl : (putV xs k b v).length ≤ sizeLine := by have := len_putV xs k b v; omega
  refine wpAny_setItem_heap (knd := nestedKind X.prog X.w) (hsz := hz) (show A.units + 1 + 8 < cLine by omega) ⟨nk_is I.hok _ _ _ nk rfl, hd8⟩ dd fun h' dd' hs => h _ ?_
  have he : ∃ q, h'.get? a = some q := let ⟨q, _, _, hq, _⟩ := dd'; ⟨q, hq⟩
  exact d_write I (by rw [e]; exact True.intro) hs he (dn_obj (fun x hx => mem_putV (P := fun k _ => nkT k = true) (fun x hx => nk_t _ _ (ko x hx).1) (nk_t _ _ nk) x hx) hd hl (rk_put k b rv rel) dd')
theorem nd_typeIs (I : Inv X pins σ H s) (g : NGet H a y o) : s.TypeIs (.ref a) "dict" := by
  obtain ⟨xs, k, b, e, ko, _⟩ := g
  obtain ⟨_, _, us, _, dd⟩ := dn_of I.hok e ko
  exact dd.typeIs
end
def tNGet (td ty : TE) : TE := fun σ H Q => td σ H fun x H1 => ty σ H1 fun y H2 => ∃ a v, x = .ref a ∧ NGet H2 a y (some v) ∧ Q v H2
def tNIn (ty td : TE) : TE := fun σ H Q => ty σ H fun y H1 => td σ H1 fun x H2 => ∃ a o, x = .ref a ∧ NGet H2 a y o ∧ Q (.bl o.isSome) H2
def tNNotIn (ty td : TE) : TE := fun σ H Q => ty σ H fun y H1 => td σ H1 fun x H2 => ∃ a o, x = .ref a ∧ NGet H2 a y o ∧ Q (.bl (!o.isSome)) H2
def sNPut (td ty tv : TE) : TS := fun D σ H => tv σ H fun v H1 => td σ H1 fun x H2 => ty σ H2 fun y H3 => ∃ a H4, x = .ref a ∧ NPut H3 a y v H4 ∧ D.nx σ H4
def tNNew : TE := fun _ H Q => ∀ p, H p = none → Q (.ref p) (upd H p (DN p []))
section
variable {X : Cx} {o i e value : Expr} {pos pos' tpos : Pos} {td ty tv : TE}
theorem pe_nget (hu : X.A.units + 65 < cLine) (ho : PE X o td) (hi : PE X i ty) (hs : NoSl i) : PE X (.Subscript o i pos) (tNGet td ty) := by
  refine ⟨fun pins s σ H Q I h => ?_⟩
  refine subD_of PySem.F.slot_dict_getitem.lookup hs (thn (ho.run pins s σ H _ I h) fun u s1 ⟨x, H1, I1, rx, q1⟩ => thn (hi.run pins s1 σ H1 _ I1 q1) fun iv s2 ⟨y, H2, I2, ry, a, v, ex, g, q2⟩ => ?_)
  subst ex
  obtain rfl : u = Value.ref a := rx
  exact ⟨nd_typeIs I2 g, n_getItem (by omega) I2 g ry fun w' s3 I3 rw' => ⟨v, H2, I3, rw', q2⟩⟩
theorem pc_nin (hu : X.A.units + 65 < cLine) (hi : PE X i ty) (ho : PE X o td) : L2.PC X .In i o (tNIn ty td) := by
  refine ⟨fun pins s σ H Q I h => ?_⟩
  refine thn (hi.run pins s σ H _ I h) fun iv s1 ⟨y, H1, I1, ry, q1⟩ => thn (ho.run pins s1 σ H1 _ I1 q1) fun u s2 ⟨x, H2, I2, rx, a, ov, ex, g, q2⟩ => ?_
  subst ex
  obtain rfl : u = Value.ref a := rx
  exact n_in (by omega) I2 g ry fun s3 I3 => ⟨.bl ov.isSome, H2, I3, rfl, q2⟩
theorem pc_nnotin (hu : X.A.units + 65 < cLine) (hi : PE X i ty) (ho : PE X o td) : L2.PC X .NotIn i o (tNNotIn ty td) := by
  refine ⟨fun pins s σ H Q I h => ?_⟩
  refine thn (hi.run pins s σ H _ I h) fun iv s1 ⟨y, H1, I1, ry, q1⟩ => thn (ho.run pins s1 σ H1 _ I1 q1) fun u s2 ⟨x, H2, I2, rx, a, ov, ex, g, q2⟩ => ?_
  subst ex
  obtain rfl : u = Value.ref a := rx
  exact n_notIn (by omega) I2 g ry fun s3 I3 => ⟨.bl (!ov.isSome), H2, I3, rfl, q2⟩
theorem ps_nput (hu : X.A.units + 65 < cLine) (ho : PE X o td) (hi : PE X i ty) (hv : PE X value tv) (hs : swapsWith value (some (.Subscript o i pos')) pos.line X.env = pure false) :
    PS X (.Assign [.Subscript o i pos'] value pos) (sNPut td ty tv) := by
  refine ⟨fun pins s σ H D I h => ?_⟩
  refine wpAny_Assign_Subscript (thn (hv.run pins s σ H _ I h) fun r s1 ⟨v, H1, I1, rv, q1⟩ => thn (ho.run pins s1 σ H1 _ I1 q1) fun u s2 ⟨x, H2, I2, rx, q2⟩ => thn (hi.run pins s2 σ H2 _ I2 q2) fun iv s3 ⟨y, H3, I3, ry, a, H4, ex, g, q3⟩ => ?_) hs
  subst ex
  obtain rfl : u = Value.ref a := rx
  exact n_setItem (by omega) I3 g ry rv fun s4 I4 => ⟨σ, H4, I4, q3⟩
theorem pe_nnew : PE X (.Dict [] [] pos) tNNew := ⟨fun pins s σ H Q I h =>
  wpAny_Dict_empty ⟨.ref s.heap.objs.size, _, I.laid (a := s.heap.objs.size) (o := DN s.heap.objs.size []) (t' := s.toks) (fun _ _ q => Heap.get?_push_of_some _ q) (Nat.le_refl _)
    (dn_obj (us := []) (fun _ hx => nomatch hx) (beq_eq_false_iff_ne.mpr (Ne.symm (Nat.ne_of_lt I.big))) (Nat.zero_le _) .nil (Heap.DictOfH.new s.heap)), rfl, h _ (I.hok.fresh (Nat.le_refl _))⟩⟩
end
end Sm

namespace Sm
open PySem L2
section
variable {K : PySem.W.Frag} {g : G} {H : Hp}
abbrev NR (K : PySem.W.Frag) (g : G) (H : Hp) : NestedKey × Val → NestedKey × Addr × V → Prop := fun p q => (p.1 = q.1 ∧ p.1.depth ≤ 8) ∧ (∃ v, keyN v = some p.1 ∧ VR K g H v (.ref q.2.1)) ∧ VR K g H p.2 q.2.2
theorem nr_look (k : NestedKey) : ∀ {kvs : List (NestedKey × Val)} {xs : List (NestedKey × Addr × V)}, Paired (NR K g H) kvs xs → (∃ v w, lookN kvs k = some v ∧ atV xs k = some w ∧ VR K g H v w) ∨ (lookN kvs k = none ∧ atV xs k = none)
  | _, _, .nil => .inr ⟨rfl, rfl⟩
  | p :: kvs, q :: xs, .cons h t => by
    by_cases e : p.1 = k
    · exact .inl ⟨p.2, q.2.2, by simp [lookN, e], atV_pos (h.1.1.symm.trans e), h.2.2⟩
    · rw [show lookN (p :: kvs) k = lookN kvs k from by simp [lookN, e], atV_neg (fun z => e (h.1.1.trans z))]
      exact nr_look k t
theorem nr_map (k : NestedKey) {v : Val} {w : V} (hv : VR K g H v w) : ∀ {kvs : List (NestedKey × Val)} {xs : List (NestedKey × Addr × V)}, Paired (NR K g H) kvs xs → Paired (NR K g H) (kvs.map fun p => if p.1 = k then (p.1, v) else p) (xs.map fun x => if x.1 = k then (x.1, x.2.1, w) else x)
  | _, _, .nil => .nil
  | p :: kvs, q :: xs, .cons h t => by
    rw [List.map_cons, List.map_cons]
    refine .cons ?_ (nr_map k hv t)
    by_cases e : p.1 = k
    · rw [if_pos e, if_pos (h.1.1.symm.trans e)]
      exact ⟨h.1, h.2.1, hv⟩
    · rw [if_neg e, if_neg (fun z => e (h.1.1.trans z))]
      exact h
theorem nr_snoc {p : NestedKey × Val} {q : NestedKey × Addr × V} (h0 : NR K g H p q) : ∀ {kvs : List (NestedKey × Val)} {xs : List (NestedKey × Addr × V)}, Paired (NR K g H) kvs xs → Paired (NR K g H) (kvs ++ [p]) (xs ++ [q])
  | _, _, .nil => .cons h0 .nil
  | _, _, .cons h t => .cons h (nr_snoc h0 t)
theorem nr_put {k : NestedKey} {b : Addr} {v : Val} {w : V} (hv : VR K g H v w) (hk : NR K g H (k, v) (k, b, w)) {kvs : List (NestedKey × Val)} {xs : List (NestedKey × Addr × V)} (h : Paired (NR K g H) kvs xs) : Paired (NR K g H) (putNv kvs k v) (putV xs k b w) := by
  unfold putNv putV
  rcases nr_look k h with ⟨v', w', e1, e2, _⟩ | ⟨e1, e2⟩
  · rw [e1, e2, if_pos (show (some v').isSome = true from rfl), if_pos (show (some w').isSome = true from rfl)]
    exact nr_map k hv h
  · rw [e1, e2, if_neg (fun z => nomatch z), if_neg (fun z => nomatch z)]
    exact nr_snoc hk h
theorem nr_keys : ∀ {kvs : List (NestedKey × Val)} {xs : List (NestedKey × Addr × V)}, Paired (NR K g H) kvs xs → KeysOk H xs
  | _, _, .nil => fun _ h => nomatch h
  | p :: kvs, q :: xs, .cons h t => fun x hx => by
    rcases List.mem_cons.mp hx with rfl | hx
    · obtain ⟨v, e, r⟩ := h.2.1
      rw [← h.1.1]
      exact ⟨nk_of _ _ _ e r, h.1.2⟩
    · exact nr_keys t x hx
end
/-- the dict's place -/
def dnAt (o : T) (st : MS) : Option (Nat × List (NestedKey × Val)) := match o with
  | .val (.ref n) => match st.hp[n]? with
    | some (.dn kvs) => some (n, kvs)
    | _ => none
  | _ => none
def keyD (v : Val) : Option NestedKey := match v with
  | .tup vs => (keyN (.tup vs)).bind fun k => if k.depth ≤ 8 then some k else none
  | _ => none
def mNNew : M T := fun st => .ok (.val (.ref st.hp.length)) { st with hp := st.hp ++ [.dn []] }
def nGetT (to tk : T) : M T := fun st => match dnAt to st with
  | some (_, kvs) => match (view tk st).bind keyD with
    | some k => match lookN kvs k with
      | some v => .ok (.val v) st
      | none => .bad
    | none => .bad
  | none => .bad
def mNGet (mo mi : M T) : M T := fun st => (mo st).bind fun o st1 => (mi st1).bind fun i st2 => nGetT o i st2
def nHasT (neg : Bool) (to tk : T) : M T := fun st => match dnAt to st with
  | some (_, kvs) => match (view tk st).bind keyD with
    | some k => .ok (.val (.bl (if neg then !(lookN kvs k).isSome else (lookN kvs k).isSome))) st
    | none => .bad
  | none => .bad
def mNIn (neg : Bool) (mi mo : M T) : M T := fun st => (mi st).bind fun i st1 => (mo st1).bind fun o st2 => nHasT neg o i st2
def nPutT (to tk : T) (v : Val) : M Fl := fun st => match dnAt to st with
  | some (n, kvs) => match (view tk st).bind keyD with
    | some k => if kvs.length < 16777216 then .ok .nx { st with hp := st.hp.set n (.dn (putNv kvs k v)) } else .bad
    | none => .bad
  | none => .bad
def mNPut (mv mo mi : M T) : M Fl := fun st => (mv st).bind fun t st1 => (mTake t st1).bind fun v st1' => (mo st1').bind fun o st2 => (mi st2).bind fun i st3 => nPutT o i v st3
section
variable {X : Cx} {W : WX} {o i e value : Expr} {pos pos' : Pos} {mo mi mv : M T}
theorem dn_ok {K : PySem.W.Frag} {g0 g1 : G} {H0 H1 : Hp} {σ : L2.St} {st1 : MS} {t : T} {w : V} {n : Nat} {kvs : List (NestedKey × Val)} (r : R K g1 st1 σ H1) (q : TR K g0 H0 g1 H1 σ t w) (e : dnAt t st1 = some (n, kvs)) :
    ∃ a xs, w = .ref a ∧ g1.rho n = some a ∧ H1 a = some (DN a xs) ∧ Paired (NR K g1 H1) kvs xs := by
  cases t with
  | own _ => cases e
  | loc _ => cases e
  | val v =>
    cases v with
    | ref m =>
      simp only [dnAt] at e
      split at e
      · rename_i kv ek
        cases e
        obtain ⟨a, h1, xs, h2, h3⟩ := r.ob _ _ ek
        have q : VR K g1 H1 (.ref n) w := q
        unfold VR at q
        obtain ⟨a', k1, rfl⟩ := q
        rw [h1] at k1; cases k1
        exact ⟨a, xs, rfl, h1, h2, h3⟩
      · cases e
    | _ => cases e
theorem s_nnew : SE X W (.Dict [] [] pos) mNNew := pe_nnew.im fun σ H Q ⟨g, st, r, p⟩ a ha => by
  have d : Add H (upd H a (DN a [])) := Add.upd ha
  have wf := r.wf
  have r2 := r.add d
  have r3 := r2.place (a := a) (o := .dn []) (fun z => r.sa a z ha) (wf.no_rho ha) (wf.no_O ha) ⟨[], upd_same, .nil⟩
  refine p _ _ _ (d.ext.place (fun b z => absurd (r.dom _ _ z) (Nat.lt_irrefl _)) (.inl ha)) r3 ?_
  show VR _ _ _ _ _
  unfold VR
  exact ⟨a, by show (if _ = _ then _ else _) = _; rw [if_pos rfl], rfl⟩
theorem view_keyD {K : PySem.W.Frag} {g0 g1 : G} {H0 H1 : Hp} {σ : L2.St} {st1 : MS} {t : T} {w : V} {k : NestedKey} (r : R K g1 st1 σ H1) (q : TR K g0 H0 g1 H1 σ t w) (e : (view t st1).bind keyD = some k) : ∃ b v, w = .ref b ∧ keyN v = some k ∧ VR K g1 H1 v (.ref b) ∧ k.depth ≤ 8 := by
  rw [Option.bind_eq_some_iff] at e
  obtain ⟨v, e1, e2⟩ := e
  have hv : Vw K g1 H1 v w := view_ok r q e1
  unfold keyD at e2
  split at e2
  · rename_i vs
    obtain ⟨k', e3, e4⟩ := Option.bind_eq_some_iff.mp e2
    split at e4
    · rename_i hd
      cases e4
      have hv : VR K g1 H1 (.tup vs) w := hv
      have hv' := hv
      unfold VR at hv
      obtain ⟨a, ws, rfl, _, _⟩ := hv
      exact ⟨a, _, rfl, e3, hv', hd⟩
    · cases e4
  · cases e2
theorem s_nget (hu : X.A.units + 65 < cLine) (ho : SE X W o mo) (hi : SE X W i mi) (hs : NoSl i := by intro _ _; rfl) : SE X W (.Subscript o i pos) (mNGet mo mi) := (pe_nget hu ho hi hs).im fun σ H Q ⟨g, st, r, p⟩ =>
  ⟨g, st, r, Pst.bind Ext.refl p fun g2 w H2 t st2 e2 _ r2 q2 p2 => ⟨g2, st2, r2, Pst.bind e2 p2 fun g3 w3 H3 t3 st3 e3 e3' r3 q3 p3 => by
    unfold nGetT at p3
    split at p3
    · rename_i n kvs ed
      split at p3
      · rename_i k ek
        split at p3
        · rename_i v ev
          obtain ⟨a, xs, rfl, h1, h2, h3⟩ := dn_ok r3 (TR.rel.ext r2.wf e3' q2) ed
          obtain ⟨b, kv, rfl, hk, hkv, hd⟩ := view_keyD r3 q3 ek
          rcases nr_look k h3 with ⟨v', w', l1, l2, l3⟩ | ⟨l1, l2⟩
          · rw [ev] at l1; cases l1
            exact ⟨a, w', rfl, ⟨xs, k, b, h2, nr_keys h3, rfl, nk_of _ _ _ hk hkv, hd, l2.symm⟩, p3 g3 w' H3 e3 r3 l3⟩
          · rw [ev] at l1; cases l1
        · exact p3.elim
      · exact p3.elim
    · exact p3.elim⟩⟩
theorem nHas_ok {neg : Bool} {K : PySem.W.Frag} {mg : Str → Option Value} {g g1 : G} {H H1 : Hp} {g0 g9 : G} {H0 H9 : Hp} {σ : L2.St} {st1 : MS} {t ti : T} {w wi : V} {Q : VK} (e : Ext g H g1 H1) (r : R K g1 st1 σ H1) (q : TR K g0 H0 g1 H1 σ t w) (qi : TR K g9 H9 g1 H1 σ ti wi)
    (p : Pst K mg W (TR K) g H σ (nHasT neg t ti st1) Q) : ∃ a o, w = .ref a ∧ NGet H1 a wi o ∧ Q (.bl (if neg then !o.isSome else o.isSome)) H1 := by
  unfold nHasT at p
  split at p
  · rename_i n kvs ed
    split at p
    · rename_i k ek
      obtain ⟨a, xs, rfl, h1, h2, h3⟩ := dn_ok r q ed
      obtain ⟨b, kv, rfl, hk, hkv, hd⟩ := view_keyD r qi ek
      refine ⟨a, _, rfl, ⟨xs, k, b, h2, nr_keys h3, rfl, nk_of _ _ _ hk hkv, hd, rfl⟩, ?_⟩
      have : (lookN kvs k).isSome = (atV xs k).isSome := by
        rcases nr_look k h3 with ⟨v', w', l1, l2, l3⟩ | ⟨l1, l2⟩
        · rw [l1, l2]; rfl
        · rw [l1, l2]; rfl
      rw [← this]
      exact p g1 _ H1 e r (by show VR _ _ _ _ _; unfold VR; rfl)
    · exact p.elim
  · exact p.elim
theorem tNIn_ok {σ : L2.St} {H : Hp} {Q : VK} (h : sE X.K X.mg W (mNIn false mi mo) σ H Q) : tNIn (sE X.K X.mg W mi) (sE X.K X.mg W mo) σ H Q := by
  obtain ⟨g, st, r, p⟩ := h
  exact ⟨g, st, r, Pst.bind Ext.refl p fun g2 w H2 t st2 e2 _ r2 q2 p2 => ⟨g2, st2, r2, Pst.bind e2 p2 fun g3 w3 H3 t3 st3 e3 e3' r3 q3 p3 => nHas_ok e3 r3 q3 (TR.rel.ext r2.wf e3' q2) p3⟩⟩
theorem tNNotIn_ok {σ : L2.St} {H : Hp} {Q : VK} (h : sE X.K X.mg W (mNIn true mi mo) σ H Q) : tNNotIn (sE X.K X.mg W mi) (sE X.K X.mg W mo) σ H Q := by
  obtain ⟨g, st, r, p⟩ := h
  exact ⟨g, st, r, Pst.bind Ext.refl p fun g2 w H2 t st2 e2 _ r2 q2 p2 => ⟨g2, st2, r2, Pst.bind e2 p2 fun g3 w3 H3 t3 st3 e3 e3' r3 q3 p3 => nHas_ok e3 r3 q3 (TR.rel.ext r2.wf e3' q2) p3⟩⟩
theorem t_nin (hu : X.A.units + 65 < cLine) (hi : SE X W i mi) (ho : SE X W o mo) (h1 : behindInMarks .In o = false := by rfl) : ST X W (.Compare i [.In] [o] pos) (mTst (mNIn false mi mo)) := (pt_cmp (pc_nin hu hi ho) h1).im fun σ H Q ⟨g, st, r, p⟩ =>
  tNIn_ok (Q := fun w H2 => ∃ k, w = .bl k ∧ Q k H2) ⟨g, st, r, Pst.bind (RelA := TR X.K) Ext.refl p fun g2 w H2 t st2 e2 _ r2 q2 p2 => asB_ok e2 r2 q2 p2⟩
theorem t_nnotin (hu : X.A.units + 65 < cLine) (hi : SE X W i mi) (ho : SE X W o mo) (h1 : behindInMarks .NotIn o = false := by rfl) : ST X W (.Compare i [.NotIn] [o] pos) (mTst (mNIn true mi mo)) := (pt_cmp (pc_nnotin hu hi ho) h1).im fun σ H Q ⟨g, st, r, p⟩ =>
  tNNotIn_ok (Q := fun w H2 => ∃ k, w = .bl k ∧ Q k H2) ⟨g, st, r, Pst.bind (RelA := TR X.K) Ext.refl p fun g2 w H2 t st2 e2 _ r2 q2 p2 => asB_ok e2 r2 q2 p2⟩
theorem k_nput (hu : X.A.units + 65 < cLine) (hv : SE X W value mv) (ho : SE X W o mo) (hi : SE X W i mi) (hs : swapsWith value (some (.Subscript o i pos')) pos.line X.env = pure false := by rfl) : SS X W (.Assign [.Subscript o i pos'] value pos) (mNPut mv mo mi) := (ps_nput hu ho hi hv hs).im fun D σ H ⟨g, st, r, p⟩ =>
  ⟨g, st, r, SPst.bind Ext.refl p fun g2 w H2 t st2 e2 _ r2 q2 p2 => by
    obtain ⟨g3, st3, v, e3, r3, v3, p3⟩ := SPst.take e2 r2 q2 p2
    exact ⟨g3, st3, r3, SPst.bind (RelA := TR X.K) e3 p3 fun g4 w4 H4 t4 st4 e4 e4' r4 q4 p4 => ⟨g4, st4, r4, SPst.bind (RelA := TR X.K) e4 p4 fun g5 w5 H5 t5 st5 e5 e5' r5 q5 p5 => by
      unfold nPutT at p5
      split at p5
      · rename_i n kvs ed
        split at p5
        · rename_i k ek
          split at p5
          · rename_i hl
            obtain ⟨a, xs, rfl, h1, h2, h3⟩ := dn_ok r5 (TR.rel.ext r4.wf e5' q4) ed
            obtain ⟨b, kv, rfl, hk, hkv, hd⟩ := view_keyD r5 q5 ek
            have v5 := VR.ext r4.wf e5' _ _ (VR.ext r3.wf e4' _ _ v3)
            obtain ⟨ex, r6⟩ := r5.putHp (o' := .dn (putNv kvs k v)) (u := DN a (putV xs k b w)) h1 fun g' H' ex hu =>
              have ve := VR.ext r5.wf ex _ _ v5
              ⟨_, hu, nr_put ve ⟨⟨rfl, hd⟩, ⟨kv, hk, VR.ext r5.wf ex _ _ hkv⟩, ve⟩ (prd_map (fun _ _ ⟨y1, ⟨v, y2, y3⟩, y4⟩ => ⟨y1, ⟨v, y2, VR.ext r5.wf ex _ _ y3⟩, VR.ext r5.wf ex _ _ y4⟩) h3)⟩
            exact ⟨a, _, rfl, ⟨xs, k, b, h2, nr_keys h3, rfl, nk_of _ _ _ hk hkv, hd, by rw [← Paired.length h3, sizeLine_eq]; exact hl, rfl⟩, p5 g5 σ _ (e5.trans ex) r6⟩
          · exact p5.elim
        · exact p5.elim
      · exact p5.elim⟩⟩⟩
end
end Sm

namespace Sm
open PySem L2 PySem.Spec PyProof.Rows
/-! floor division by greater divisors -/
def CDivX (_ j : Int) : Prop := j ≠ 0 ∧ j.natAbs < 2 ^ 64
abbrev cDivX (i j : Int) : Bool := j != 0 && decide (j.natAbs < 2 ^ 64)
abbrev fDivX : Val → Val → Option T := fI2C cDivX fun i j => i.fdiv j
theorem op_fdivX {X : Cx} : OpR X (binaryOp .FloorDiv) (rI CDivX fun i j => .int (i.fdiv j)) := opI fun i j _ _ _ _ _ hc q =>
  floordiv_int hc.1 q (.inl (PyProof.noPylong_of_log2 (Nat.lt_of_lt_of_le (PySem.Flt.log2_lt_of (by decide) hc.2) (by decide))))
theorem p_divX {K : PySem.W.Frag} : P2 K (rI CDivX fun i j => .int (i.fdiv j)) fDivX := p_IC fun i j h => by
  unfold cDivX at h
  simp only [Bool.and_eq_true, bne_iff_ne, ne_eq, decide_eq_true_eq] at h
  exact h
end Sm

/-! ### word, *rest = a tuple -/
namespace PySem.W
open PySem PySem.Spec PySem.Calls PyProof.Rows
section
variable {prog : Program} {w : World} {A : Around} {E : Value → Shared → Prop} {s : Shared}
/-- two targets, the second one starred, of a tuple that has a first part: it gets a new list of the others -/
theorem unpack_star1 {l : Addr} {items : Array Value} {Q : List Value → Shared → Prop} (ht : IsTup s.heap l items) (hh : A.handled = none) (h1 : 1 ≤ items.size) (hz : items.size ≤ 16384)
    (k : ∀ (h' : Heap) (tk : Nat), (∀ b o, s.heap.get? b = some o → h'.get? b = some o) → Q (items.toList.take 1 ++ [.ref h'.objs.size]) { s with heap := h'.push { cls := .type "list", data := .seq (items.toList.drop 1).toArray }, toks := tk }) : wpAny (model prog w) A (unpackItems (.ref l) 2 (some 1)) Q E s := by
  have old : ∀ {b o}, s.heap.get? b = some o → b < s.heap.objs.size := fun e => Heap.lt_size e
  have ne : l ≠ s.heap.objs.size := ht.elim fun o z => Nat.ne_of_lt (old z.1)
  have head1 : (items.toList.take 1).length = 1 := by simp only [List.length_take, Array.length_toList]; omega
  unfold unpackItems notIterableAtAll
  -- the tuple may be walked: its walker is made, one part is drawn
  refine wpAny_bind (wpAny_bind (wpAny_specialOf ht.typeIs slot_tuple_iter.lookup (wpAny_pure ?_)))
  rw [if_neg Bool.false_ne_true]
  refine wpAny_bind (wpAny_holding (iter_tuple ht (wpAny_bind (wpAny_holding (draw_tuple ne 1 0 _ _ ⟨_, Heap.get?_push_size _ rfl, rfl, rfl⟩ (ht.push _) (by omega) fun hA itA sameA => ?_)))))
  have tA : IsTup hA l items := IsTup.extBut (ht.push _) sameA.extBut ne
  obtain ⟨oI, gI, rI⟩ : ∃ o, hA.get? s.heap.objs.size = some o ∧ True := itA.elim fun o z => ⟨o, z.1, trivial⟩
  obtain ⟨oT, gT, rT⟩ : ∃ o, hA.get? l = some o ∧ True := tA.elim fun o z => ⟨o, z.1, trivial⟩
  rw [List.drop_zero, if_neg (Nat.not_lt.mpr (Nat.le_of_eq head1.symm))]
  -- what is left of it is collected
  refine wpAny_bind (wpAny_holding (kun_collect (k := 1) (s := { s with heap := hA }) (T := "tuple_iterator") (.inr (.inr (.inr rfl))) (Walks.tuple (A := A.in1) hh s.heap.objs.size l ne items) (fun _ _ z => z.1.typeIs) h1 ⟨by rw [Nat.zero_add] at itA; exact itA, tA⟩ (Heap.lt_size gI) (Heap.lt_size gT) (fun hB tk keepB => ?_) (Nat.le_trans hz (by rw [sizeLine_eq]; omega))))
  have keep : ∀ b o, s.heap.get? b = some o → hB.get? b = some o := fun b o e =>
    have nb := Nat.ne_of_lt (old e)
    keepB b o nb (sameA.extBut b o nb (Heap.get?_push_of_some _ e))
  show wpAny _ _ (if (items.toList.drop 1).length < 0 then _ else newList ((items.toList.drop 1).take ((items.toList.drop 1).length - 0)) >>= fun d => pure (items.toList.take 1 ++ [d] ++ (items.toList.drop 1).drop ((items.toList.drop 1).length - 0))) _ _ _
  rw [if_neg (Nat.not_lt_zero _), Nat.sub_zero, List.take_length, List.drop_length]
  exact wpAny_bind (wpAny_newList (wpAny_pure (by rw [List.append_nil]; exact k hB tk keep)) (by simp only [List.length_drop, Array.length_toList, sizeLine_eq]; omega))
end
end PySem.W
namespace L2
open PySem PySem.Spec PyProof.Rows PySem.W PySem.Calls
def gStar (K : PySem.W.Frag) (t : TGs) : TG := fun v σ H Q => ∃ a x xs, v = .ref a ∧ SqT K H a (x :: xs) ∧ xs.length ≤ 1000 ∧ ∀ p, H p = none → t [x, .ref p] σ (upd H p (.lst xs)) Q
theorem pg_star {X : Cx} {t1 t2 : Expr} {p2 pos : Pos} {k : Nat} {t : TGs} (hc : X.calm = true) (h : PGs X [t1, t2] t)
    (hn : (assignEach [t1, .Starred t2 p2] X.env).length = 2 := by rfl) (hst : (assignEach [t1, .Starred t2 p2] X.env).findIdx? (·.1) = some 1 := by rfl)
    (hm : (assignEach [t1, .Starred t2 p2] X.env).map (·.2) = (assignEach [t1, t2] X.env).map (·.2) := by rfl) : PG X (.Tuple [t1, .Starred t2 p2] k pos) (gStar X.K t) := by
  refine ⟨fun pins s σ H v u Q I r hw => ?_⟩
  obtain ⟨a, x, xs, e1, hq, hz, hw⟩ := hw
  subst e1
  cases r
  obtain ⟨its, rv, ht, hz2⟩ := I.tuple hq
  rw [assign_Tuple]
  refine wpAny_bind (wpAny_standAt ?_)
  unfold unpack
  rw [hn, hst]
  have hlen : its.length = xs.length + 1 := by rw [← rv.length]; rfl
  refine wpAny_bind (wpAny_holding (unpack_star1 ht (I.ok.hd hc) (by rw [List.size_toArray]; omega) (by rw [List.size_toArray]; omega) fun h' tk he => ?_))
  rw [hm]
  have I1 : Inv X pins σ H { s with heap := h' } := I.kept (t' := s.toks) he
  cases rv with
  | cons r rr =>
    rename_i u us
    refine h.run pins _ σ _ [x, .ref h'.objs.size] _ Q (I1.lnew (t' := tk) rr (by rw [sizeLine_eq]; omega)) (.cons r (.cons rfl .nil)) (hw _ I1.fresh)
end L2
namespace Sm
open PySem PySem.Spec PyProof.Rows L2
def mGStar (mts : List Val → M Unit) (t : T) : M Unit := fun st => match view t st with
  | some (.tup (v :: vs)) => if vs.length ≤ 1000 then mts [v, .lst vs] st else .bad
  | _ => .bad
theorem g_star {X : Cx} {W : WX} {F : Nat → Bool} {t1 t2 : Expr} {mts : List Val → M Unit} {p2 pos : Pos} {k : Nat} (hc : X.calm = true) (h : SGs X W F [t1, t2] mts)
    (hn : (assignEach [t1, .Starred t2 p2] X.env).length = 2 := by rfl) (hst : (assignEach [t1, .Starred t2 p2] X.env).findIdx? (fun x => x.1) = some 1 := by rfl)
    (hm : ((assignEach [t1, .Starred t2 p2] X.env).map fun x => x.2) = (assignEach [t1, t2] X.env).map fun x => x.2 := by rfl) : SG X W F (.Tuple [t1, .Starred t2 p2] k pos) (mGStar mts) :=
  (pg_star hc h hn hst hm).im fun w σ H1 Q ⟨g, H, g1, st1, t, e, r, q, p⟩ => by
    unfold mGStar at p
    split at p
    · rename_i v vs ev
      split at p
      · rename_i hl
        have z := view_ok r q ev
        unfold Vw VR at z
        obtain ⟨a, ws, z1, z2, z3⟩ := z
        unfold VRs at z3
        obtain ⟨w0, wr, rfl, q1, q2⟩ := z3
        refine ⟨a, w0, wr, z1, SqT.of z2, by rw [← q2.length]; exact hl, fun b hb => ?_⟩
        have d : Add H1 (upd H1 b (.lst wr)) := Add.upd hb
        obtain ⟨g2, e2, r2, v2, _⟩ := take_ok (t := .own vs) (v := .lst vs) (st2 := st1) d.ext (r.add d) ⟨b, wr, rfl, upd_same, VRs.ext r.wf d.ext _ _ q2, r.wf.no_rho hb, r.wf.no_O hb, .inl hb⟩ rfl
        refine ⟨g1, H1, g2, st1, [v, .lst vs], e2, r2, ?_, GPst.sh e .refl p⟩
        have q1' := VR.ext r.wf e2 _ _ q1
        show VRs _ _ _ (v :: [.lst vs]) _
        unfold VRs
        refine ⟨w0, [.ref b], rfl, q1', ?_⟩
        unfold VRs
        refine ⟨.ref b, [], rfl, v2, ?_⟩
        unfold VRs
        rfl
      · exact p.elim
    · exact p.elim
end Sm

namespace Sm
open PySem L2
/-! ### d.pop(k), d.get(k, x) of dicts by ints and texts -/
def delKk (kvs : List (Key × Val)) (k : Key) : List (Key × Val) := kvs.filter fun p => decide (p.1 ≠ k)
def kPopT (to tk : T) : M T := fun st => match dkAt to st with
  | some (n, kvs) => match (view tk st).bind keyK with
    | some k => match lookK kvs k with
      | some v => .ok (.val v) { st with hp := st.hp.set n (.dk (delKk kvs k)) }
      | none => .bad
    | none => .bad
  | none => .bad
def mKPop (mo mi : M T) : M T := fun st => (mo st).bind fun o st1 => match dkAt o st1 with
  | some _ => (mi st1).bind fun i st2 => kPopT o i st2
  | none => .bad
def kGetDT (to tk : T) (d : Val) : M T := fun st => match dkAt to st with
  | some (_, kvs) => match (view tk st).bind keyK with
    | some k => .ok (.val ((lookK kvs k).getD d)) st
    | none => .bad
  | none => .bad
/-- d.get(k, x), x a written whole number -/
def mKGetI (mo mi : M T) (x : Int) : M T := fun st => (mo st).bind fun o st1 => match dkAt o st1 with
  | some _ => (mi st1).bind fun i st2 => kGetDT o i (.int x) st2
  | none => .bad
section
variable {K : PySem.W.Frag} {g : G} {H : Hp}
theorem DKs.del : ∀ {kvs : List (Key × Val)} {kk : List (Key × V)} (k : Key), DKs K g H kvs kk → DKs K g H (delKk kvs k) (dropK kk k)
  | _, _, k, .nil => .nil
  | p :: kvs, q :: kk, k, .cons h t => by
    have e : p.1 = q.1 := h.1
    unfold delKk dropK
    by_cases z : p.1 = k
    · rw [List.filter_cons_of_neg (by simp [z]), List.filter_cons_of_neg (by simp [← e, z])]
      exact DKs.del k t
    · rw [List.filter_cons_of_pos (by simp [z]), List.filter_cons_of_pos (by simp [← e, z])]
      exact .cons h (DKs.del k t)
end
section
variable {X : Cx} {W : WX} {o i e : Expr} {apos cpos p0 : Pos} {mo mi : M T} {x : Int} {kk0 : Nat}
theorem s_kpop (ho : SE X W o mo) (hi : SE X W i mi) (m : M1 X o "pop" apos i cpos) : SE X W (.Call (.Attribute o "pop" apos) [i] [] cpos) (mKPop mo mi) := (pe_dpop1 ho hi m).im fun σ H Q ⟨g, st, r, p⟩ =>
  ⟨g, st, r, Pst.bind Ext.refl p fun g2 w H2 t st2 e2 _ r2 q2 p2 => by
    split at p2
    · rename_i d ed0
      obtain ⟨n0, kv0⟩ := d
      obtain ⟨a, kk, rfl, h1, h2, h3⟩ := dk_ok r2 q2 ed0
      refine ⟨a, rfl, .inl ⟨kk, .inl h2⟩, g2, st2, r2, Pst.bind e2 p2 fun g3 w3 H3 t3 st3 e3 e3' r3 q3 p3 => ?_⟩
      unfold kPopT at p3
      split at p3
      · rename_i n kvs ed
        split at p3
        · rename_i k ek
          split at p3
          · rename_i v ev
            obtain ⟨a', kk', ea, h1', h2', h3'⟩ := dk_ok r3 (TR.rel.ext r2.wf e3' q2) ed
            cases ea
            have hb := view_keyK r3 q3 ek
            subst hb
            rcases h3'.look k with ⟨v', w', l1, l2, l3⟩ | ⟨l1, l2⟩
            · rw [ev] at l1; cases l1
              obtain ⟨ex, r6⟩ := r3.putHp (o' := .dk (delKk kvs k)) (u := .dK (dropK kk' k)) h1' fun g' H' ex hu => ⟨_, hu, DKs.del k (prd_map (fun _ _ z => ⟨z.1, VR.ext r3.wf ex _ _ z.2⟩) h3')⟩
              exact ⟨kk', k, w', h2', rfl, l2, p3 g3 w' _ (e3.trans ex) r6 (VR.ext r3.wf ex _ _ l3)⟩
            · rw [ev] at l1; cases l1
          · exact p3.elim
        · exact p3.elim
      · exact p3.elim
    · exact p2.elim⟩
theorem s_kgeti (hu : X.A.units + 1 < cLine) (ho : SE X W o mo) (hi : SE X W i mi) (m : M2 X o "get" apos i (.Constant (.int x) kk0 p0) cpos) : SE X W (.Call (.Attribute o "get" apos) [i, .Constant (.int x) kk0 p0] [] cpos) (mKGetI mo mi x) := (pe_dget2 (tx := fun σ H Q => Q (.int x) H) hu ho hi pe_int m).im fun σ H Q ⟨g, st, r, p⟩ =>
  ⟨g, st, r, Pst.bind Ext.refl p fun g2 w H2 t st2 e2 _ r2 q2 p2 => by
    split at p2
    · rename_i d ed0
      obtain ⟨n0, kv0⟩ := d
      obtain ⟨a, kk, rfl, h1, h2, h3⟩ := dk_ok r2 q2 ed0
      refine ⟨a, rfl, .inl ⟨kk, .inl h2⟩, g2, st2, r2, Pst.bind e2 p2 fun g3 w3 H3 t3 st3 e3 e3' r3 q3 p3 => ?_⟩
      unfold kGetDT at p3
      split at p3
      · rename_i n kvs ed
        split at p3
        · rename_i k ek
          obtain ⟨a', kk', ea, h1', h2', h3'⟩ := dk_ok r3 (TR.rel.ext r2.wf e3' q2) ed
          cases ea
          have hb := view_keyK r3 q3 ek
          subst hb
          refine ⟨_, DGet.k h2', ?_⟩
          rcases h3'.look k with ⟨v', w', l1, l2, l3⟩ | ⟨l1, l2⟩
          · rw [l1] at p3
            rw [l2]
            exact p3 g3 w' H3 e3 r3 l3
          · rw [l1] at p3
            rw [l2]
            exact p3 g3 (.int x) H3 e3 r3 (by show VR _ _ _ _ _; unfold VR; rfl)
        · exact p3.elim
      · exact p3.elim
    · exact p2.elim⟩
end
/-! ### d[k] = .. among several targets -/
def kPutU (to tk : T) (v : Val) : M Unit := fun st => match dkAt to st with
  | some (n, kvs) => match (view tk st).bind keyK with
    | some k => if kvs.length < 16777216 then .ok () { st with hp := st.hp.set n (.dk (putKk kvs k v)) } else .bad
    | none => .bad
  | none => .bad
def mGKPut (mo mi : M T) (t : T) : M Unit := fun st => (mTake t st).bind fun v st1 => (mo st1).bind fun o st2 => (mi st2).bind fun i st3 => kPutU o i v st3
section
variable {X : Cx} {W : WX} {F : Nat → Bool} {o ix : Expr} {pos : Pos} {mo mi : M T}
theorem g_kput (hu : X.A.units + 1 < cLine) (ho : SE X W o mo) (hi : SE X W ix mi) (hx : ∀ v, assign (.Subscript o ix pos) X.env v = (do
      let ov ← holding [v] (eval o X.env)
      let iv ← holding [v, ov] (eval ix X.env)
      standAt pos
      holding [v, ov, iv] (setItem ov iv v)
      release [v, ov, iv] []) := by intro _; rfl) : SG X W F (.Subscript o ix pos) (mGKPut mo mi) :=
  (pg_sub ho hi (set_dict hu) hx).im fun w σ H1 Q ⟨g, H, g1, st1, t, e, r, q, p⟩ => by
    have p : GPst X.K X.mg W F g H σ ((mTake t st1).bind fun v st1 => (mo st1).bind fun o st2 => (mi st2).bind fun i st3 => kPutU o i v st3) Q := p
    cases h1 : mTake t st1 with
    | exc x s => exact (take_noexc h1).elim
    | bad => rw [h1] at p; exact p.elim
    | ok v s =>
      rw [h1] at p
      obtain ⟨g2, e2, r2, v2, _, _⟩ := take_ok e r q.tw h1
      refine ⟨g2, s, r2, GPst.bind e2 p fun g3 wo H3 to st3 e3 e3' r3 q3 p3 => ⟨g3, st3, r3, GPst.bind e3 p3 fun g4 wi H4 ti st4 e4 e4' r4 q4 p4 => ?_⟩⟩
      unfold kPutU at p4
      split at p4
      · rename_i n kvs ed
        split at p4
        · rename_i k ek
          split at p4
          · rename_i hl
            obtain ⟨a, kk, rfl, h1, h2, h3⟩ := dk_ok r4 (TR.rel.ext r3.wf e4' q3) ed
            have hb := view_keyK r4 q4 ek
            subst hb
            have v4 := VR.ext r3.wf e4' _ _ (VR.ext r2.wf e3' _ _ v2)
            obtain ⟨ex, r6⟩ := r4.putHp (o' := .dk (putKk kvs k v)) (u := .dK (putK kk k w)) h1 fun g' H' ex hu => ⟨_, hu, DKs.put (VR.ext r4.wf ex _ _ v4) k (prd_map (fun _ _ z => ⟨z.1, VR.ext r4.wf ex _ _ z.2⟩) h3)⟩
            exact ⟨a, _, rfl, DPut.k h2 (by rw [← h3.length, sizeLine_eq]; exact hl), p4 g4 σ _ (e4.trans ex) r6 .refl⟩
          · exact p4.elim
        · exact p4.elim
      · exact p4.elim
end
end Sm

namespace L2
open PySem PySem.Spec PyProof.Rows Sm
/-! ### a written dict, texts to whole numbers: d.get(k, x) -/
/-- at a the written dict tb -/
def SzV (o : Option Int) (r : Option Value) : Prop := match o with
  | none => r = none
  | some i => ∃ t, r = some (.int i t)
def SzF (K : PySem.W.Frag) (w : World) (a : Addr) (tb : List (Str × Int)) : Prop := ∃ es n, KDict K w a es n ∧ ∀ x : Str, ∃ r, PySem.W.nsIn K a x = some r ∧ SzV (tb.lookup x) r
def tSz (tb : List (Str × Int)) (x : Int) (te : TE) : TE := fun σ H Q => te σ H fun y H2 => ∃ z : Str, y = .str z ∧ Q (.int ((tb.lookup z).getD x)) H2
section
variable {X : Cx} {nm : Str} {e : Expr} {p p0 apos cpos : Pos} {te : TE} {tb : List (Str × Int)} {a : Addr} {x : Int} {j : Nat}
theorem pe_sizes (hg : Gl X nm) (hm : X.mg nm = some (.ref a)) (hd : (nm == ("__debug__" : Str)) = false) (S : SzF X.K X.w a tb) (he : PE X e te) (m : M2 X (.Name nm p) "get" apos e (.Constant (.int x) j p0) cpos) :
    PE X (.Call (.Attribute (.Name nm p) "get" apos) [e, .Constant (.int x) j p0] [] cpos) (tSz tb x te) := ⟨fun pins s σ H Q I h => by
  obtain ⟨es, n, D, look⟩ := S
  refine wpAny_Call_method m.base m.few m.line PySem.F.plainAttrs_dict PySem.F.slot_dict_get PySem.F.type_dict_get (thn ((pe_glob (v := .ref a) hg hm rfl hd).run pins s σ H (fun v H1 => v = .ref a ∧ te σ H1 fun y H2 => ∃ z : Str, y = .str z ∧ Q (.int ((tb.lookup z).getD x)) H2) I ⟨rfl, h⟩) fun u s1 ⟨v, H1, I1, rv, ev, q1⟩ => ?_)
  subst ev
  cases rv
  have at1 := PySem.W.mapOf_K (prog := X.prog) (w := X.w) I1.kIn D.at_ D.lit
  refine ⟨at1.typeIs, fun b eb => ?_, ?_⟩
  · cases eb
    exact ⟨_, I1.kIn _ _ D.at_, rfl⟩
  rw [m.trees]
  refine Calls.callWith_builtin rfl (Calls.evalArgs_plain (Calls.spliced_cons (thn (he.run pins s1 σ H1 _ I1 q1) fun ku s2 ⟨y, H2, I2, ry, z, ez, q2⟩ =>
    Calls.spliced_cons (thn ((pe_int (X := X) (i := x) (j := j) (pos := p0)).run pins s2 σ H2 (fun v H3 => v = .int x ∧ Q (.int ((tb.lookup z).getD x)) H3) I2 ⟨rfl, q2⟩) fun du s3 ⟨d, H3, I3, rd, ed, q3⟩ => Calls.spliced_nil ?_))))
  subst ez ed
  obtain ⟨t, rfl⟩ := (show ∃ t, ku = Value.str z t from ry)
  obtain ⟨t2, rfl⟩ := (show ∃ t, du = Value.int x t from rd)
  obtain ⟨r, lk, sv⟩ := look z
  have at3 := PySem.W.mapOf_K (prog := X.prog) (w := X.w) I3.kIn D.at_ D.lit
  refine call_meetsIn PySem.F.slot_dict_get at3.typeIs PySem.F.entry_dict_get (PySem.F.args_dict_get_3 _ _ _) (meets_dict_get_default (strKind X.prog X.w) a (strKind_is X.prog X.w z t) D.low (Value.int x t2)) ⟨_, at3, ?_⟩
  rw [PySem.W.find_K D.at_ lk]
  refine ⟨.int ((tb.lookup z).getD x), H3, I3.tok _, ?_, q3⟩
  unfold SzV at sv
  cases hz : tb.lookup z with
  | none => rw [hz] at sv; subst sv; exact ⟨t2, rfl⟩
  | some i => rw [hz] at sv; obtain ⟨t3, rfl⟩ := sv; exact ⟨t3, rfl⟩⟩
end
end L2
namespace Sm
open PySem PySem.Spec L2
def mSz (tb : List (Str × Int)) (m : M T) (x : Int) : M T := fun st => (m st).bind fun t st1 => match view t st1 with
  | some (.str z) => .ok (.val (.int ((tb.lookup z).getD x))) st1
  | _ => .bad
/-- a try whose suite raises nothing -/
def mTryN (b : M Fl) : M Fl := fun st => match b st with
  | .exc _ _ => .bad
  | r => r
section
variable {X : Cx} {W : WX} {nm : Str} {e : Expr} {p p0 apos cpos pos : Pos} {m : M T} {tb : List (Str × Int)} {x : Int} {j : Nat} {body : List Stmt} {b : M Fl} {h0 : ExceptHandler} {hs : List ExceptHandler}
theorem s_sizes (hg : Gl X nm) (hm : ∃ a, X.mg nm = some (.ref a) ∧ SzF X.K X.w a tb) (he : SE X W e m) (mm : M2 X (.Name nm p) "get" apos e (.Constant (.int x) j p0) cpos) (hd : (nm == ("__debug__" : Str)) = false := by decide) :
    SE X W (.Call (.Attribute (.Name nm p) "get" apos) [e, .Constant (.int x) j p0] [] cpos) (mSz tb m x) := by
  obtain ⟨a, hm, S⟩ := hm
  exact (pe_sizes hg hm hd S he mm).im fun σ H Q ⟨g, st, r, q⟩ => ⟨g, st, r, Pst.bind Ext.refl q fun g2 w H2 t st2 e2 _ r2 q2 p2 => by
    split at p2
    · rename_i z ez
      have v := view_ok r2 q2 ez
      unfold Vw VR at v
      exact ⟨z, v, p2 g2 _ H2 e2 r2 (by show VR _ _ _ _ _; unfold VR; rfl)⟩
    · exact p2.elim⟩
theorem k_tryN (hb : L2.Takes X.nox W0 → SSs X.nox W0 body b) : SS X W (.Try body (h0 :: hs) [] [] pos) (mTryN b) :=
  (ps_try_thru0 (hb L2.takes0)).im fun D σ H ⟨g, st, r, q⟩ => ⟨g, st, r, by
    unfold mTryN at q
    cases z : b st with
    | ok f s => rw [z] at q; unfold SPst at q ⊢; cases f <;> exact q
    | exc c s => rw [z] at q; exact q.elim
    | bad => rw [z] at q; exact q.elim⟩
/-! ### the written dict, read off the fragment -/
def szB (K : PySem.W.Frag) (nm : Str) (tb : List (Str × Int)) : Bool := match PySem.W.nsIn K PySem.mainGlobals nm with
  | some (some (.ref a)) => tb.all fun q => match PySem.W.nsIn K a q.1 with
    | some (some (.int i _)) => decide (i = q.2)
    | _ => false
  | _ => false
def szA (nm : Str) (K : PySem.W.Frag) : Addr := match PySem.W.nsIn K PySem.mainGlobals nm with
  | some (some (.ref a)) => a
  | _ => 0
theorem lookup_mem {tb : List (Str × Int)} {x : Str} {i : Int} : tb.lookup x = some i → (x, i) ∈ tb := by
  induction tb with
  | nil => intro h; cases h
  | cons q r ih =>
    intro h
    rw [List.lookup_cons] at h
    by_cases e : x = q.1
    · rw [show (x == q.1) = true from beq_iff_eq.mpr e] at h
      cases h
      rw [e]
      exact .head _
    · rw [show (x == q.1) = false from beq_eq_false_iff_ne.mpr e] at h
      exact .tail _ (ih h)
theorem lookup_out {tb : List (Str × Int)} {x : Str} : tb.lookup x = none → x ∉ tb.map (·.1) := by
  induction tb with
  | nil => intro _ h; cases h
  | cons q r ih =>
    intro h hm
    rw [List.lookup_cons] at h
    by_cases e : x = q.1
    · rw [show (x == q.1) = true from beq_iff_eq.mpr e] at h
      cases h
    · rw [show (x == q.1) = false from beq_eq_false_iff_ne.mpr e] at h
      rcases List.mem_cons.mp hm with z | z
      · exact e z
      · exact ih h z
theorem sz_fact {K : PySem.W.Frag} {w : World} {h : Heap} {mg : Str → Option Value} {nm : Str} {tb : List (Str × Int)} (X : K.In h) (G : h.Ns PySem.mainGlobals mg) (e : szB K nm tb = true) (d : He.dicW K (szA nm K) = some (He.keysIn w.params (tb.map (·.1)))) : ∃ a, mg nm = some (.ref a) ∧ SzF K w a tb := by
  obtain ⟨es, n, D⟩ := He.dicW_ok d
  unfold szB at e
  split at e
  · rename_i a hn
    have ha : szA nm K = a := by unfold szA; rw [hn]
    rw [ha] at d D
    refine ⟨a, PySem.W.mg_of X G hn, es, n, D, fun x => ?_⟩
    cases hx : tb.lookup x with
    | some i =>
      have := List.all_eq_true.mp e _ (lookup_mem hx)
      dsimp only at this
      split at this
      · rename_i i' t hi
        exact ⟨_, hi, t, by rw [of_decide_eq_true this]⟩
      · cases this
    | none =>
      have out := lookup_out hx
      have hk : es.toList.map He.keyOf = He.keysIn w.params (tb.map (·.1)) := by
        unfold He.dicW at d
        rw [D.at_] at d
        dsimp only at d
        split at d
        · exact Option.some.inj d
        · cases d
      refine ⟨none, ?_, rfl⟩
      unfold PySem.W.nsIn
      rw [D.at_]
      dsimp only
      have key : ∀ q ∈ es.toList, ∃ y t, q.key = .str y t ∧ y ∈ tb.map (·.1) := fun q hq => by
        have hm : He.keyOf q ∈ He.keysIn w.params (tb.map (·.1)) := by rw [← hk]; exact List.mem_map_of_mem hq
        unfold He.keysIn at hm
        obtain ⟨y, hy, ey⟩ := List.mem_map.mp hm
        unfold He.keyOf at ey
        split at ey
        · rename_i y' t' hq'
          injection ey with ey
          injection ey with e1 _
          exact ⟨y', t', hq', by rw [← e1]; exact hy⟩
        · cases ey
      have f : es.toList.find? (·.key.isStr x) = none := by
        rw [List.find?_eq_none]
        intro q hq z
        obtain ⟨y, t, h1, h2⟩ := key q hq
        rw [h1] at z
        have : x = y ∨ y = x := by
          have z : (y == x) = true ∨ (x == y) = true := by first | exact .inl z | exact .inr z
          exact z.elim (fun z => .inr (beq_iff_eq.mp z)) fun z => .inl (beq_iff_eq.mp z)
        rcases this with rfl | rfl <;> exact out h2
      have g : (es.toList.any (·.refKey)) = false := by
        rw [List.any_eq_false]
        intro q hq z
        obtain ⟨y, t, h1, _⟩ := key q hq
        unfold DictEntry.refKey at z
        rw [h1] at z
        cases z
      rw [f, g]
      rfl
  · cases e
end
end Sm
namespace Lk
open PySem
/-! ### .. and at written tables -/
section
variable {n : Nat} {fa : List He.Fa} {fn : List He.DefD} {ts : List He.Tab} {tf : List He.Defn} {ex : PySem.W.Frag → Bool}
def obsKq (fa : List He.Fa) (fn : List He.DefD) (ts : List He.Tab) (tf : List He.Defn) (ex : PySem.W.Frag → Bool) (g : Addr → Option Obj) (K : PySem.W.Frag) : He.AlX := (He.obsT fa fn ts K, ex K && He.tabsB g tf K)
def obsQ (n : Nat) (fa : List He.Fa) (fn : List He.DefD) (ts : List He.Tab) (tf : List He.Defn) (ex : PySem.W.Frag → Bool) (g : Addr → Option Obj) : He.AlX := obsKq fa fn ts tf ex g (He.frT g (He.asD g n ++ [cStatics]))
theorem saysKq {as : List Addr} {w : World} {h : Heap} (e : obsKq fa fn ts tf ex h.get? (He.frT h.get? as) = He.valX fn ts w) : He.SaysX fa fn ts tf ex w h (He.frT h.get? as) := by
  have none := fun {a : Addr} {o : Obj} => He.frT_none (g := h.get?) (as := as) (a := a) (o := o)
  generalize He.frT h.get? as = K at e none
  obtain ⟨e1, e2⟩ := Prod.mk.inj e
  rw [Bool.and_eq_true] at e2
  have tab : ∀ p ∈ tf, PySem.W.codeHdIn K (He.cT K p).1 (He.cT K p).2 = true ∧ ∃ o, h.get? (He.cT K p).2 = some o ∧ He.emptyTab o = true := fun p hp => by
    have z := List.all_eq_true.mp e2.2 p hp
    rw [Bool.and_eq_true] at z
    refine ⟨z.1, ?_⟩
    cases q : h.get? (He.cT K p).2 with
    | none => rw [q] at z; exact absurd z.2 (by decide)
    | some o => rw [q] at z; exact ⟨o, rfl, z.2⟩
  exact { t := e1, more := e2.1, hd := fun p hp => (tab p hp).1, out := fun p hp => (tab p hp).2.elim fun o z => none z.1 z.2, empty := fun p hp => (tab p hp).2.elim fun o z => z.1.trans (congrArg some (He.emptyTab_eq z.2)) }
def hookQ (n : Nat) (fa : List He.Fa) (fn : List He.DefD) (ts : List He.Tab) (tf : List He.Defn) (ex : PySem.W.Frag → Bool) : PySem.W.Hook where
  α := He.AlX
  obs := fun s => obsQ n fa fn ts tf ex s.heap.get?
  val := fun w => He.valX fn ts w
  says := fun w h => ∃ K : PySem.W.Frag, K.In h ∧ He.SaysX fa fn ts tf ex w h K
  of := fun _ _ e => ⟨_, He.frT_in, saysKq e⟩
  keeps := fun _ _ _ ⟨K, hK, c⟩ k => ⟨K, PySem.W.Frag.In.keeps hK k, { c with empty := fun p hp => k _ _ (c.empty p hp) }⟩
theorem obsQ_eq {g : Addr → Option Obj} {s : Shared} (h : ∀ a, g a = s.heap.get? a) : obsQ n fa fn ts tf ex g = (hookQ n fa fn ts tf ex).obs s := by
  obtain rfl : g = s.heap.get? := funext h
  rfl
end
end Lk
namespace Lk
open PySem
theorem tab1 {fa : List He.Fa} {fn : List He.DefD} {f : PySem.W.Frag → Addr} {ks : List Str} {w : World} {K : PySem.W.Frag} (c : He.SaysT fa fn [(f, ks)] w K) : He.dicW K (f K) = some (He.keysIn w.params ks) := by
  have e : [He.dicW K (f K)] = [some (He.keysIn w.params ks)] := congrArg (fun z : He.AlT => z.2) c
  exact (List.cons.inj e).1
end Lk

namespace Sm
open PySem L2
/-! ### texts: walked sign by sign, cut, compared -/
def signs (z : Str) : List Val := z.cps.toList.map fun c => .str ⟨#[c]⟩
def mItemsS (m : M T) : M (List Val) := fun st => (m st).bind fun t st1 => match view t st1 with
  | some (.str z) => .ok (signs z) st1
  | _ => .bad
theorem SrcOk.sgn {K : PySem.W.Frag} {g : G} {H : Hp} {z : Str} : SrcOk K g H (Its z) (signs z) where
  go := fun g' H' e i hi => by
    have : i < z.cps.size := by unfold signs at hi; simpa using hi
    exact this
  stop := fun g' H' e i hi => by
    have : z.cps.size ≤ i := by unfold signs at hi; simpa using hi
    exact this
  yld := fun g' H' e i x H'' hi y => by
    obtain ⟨rfl, c, h1, rfl⟩ := y
    refine ⟨Add.refl, .str ⟨#[c]⟩, ?_, by unfold VR; rfl⟩
    unfold signs
    rw [List.getElem?_map, Array.getElem?_toList, h1]
    rfl
theorem i_str {X : Cx} {W : WX} {tg e : Expr} {m : M T} (he : SE X W e m) : SI X W tg e (mItemsS m) := ⟨(pi_str he).im fun σ H Rr ⟨g, st, r, p⟩ => ⟨g, st, r, PstI.bind (RelA := TR X.K) Ext.refl p fun g2 w H2 t st2 e2 _ r2 q2 p2 => by
  cases ev : view t st2 with
  | none => rw [ev] at p2; exact p2.elim
  | some v =>
    rw [ev] at p2
    have vv := view_ok r2 q2 ev
    cases v with
    | str z =>
      unfold Vw VR at vv
      exact ⟨z, vv, p2 g2 H2 _ e2 r2 SrcOk.sgn⟩
    | _ => exact p2.elim⟩⟩
def fSlS : Val → Option Int → Option Int → Option T
  | .str z, lo, hi => if z.length ≤ 16777216 then some (.val (.str (Txt.slice z lo hi))) else none
  | _, _, _ => none
theorem p_slS {K : PySem.W.Frag} : PSl K C8.rSlX fSlS := by
  intro g H v w lo hi t Q wf h e q
  unfold fSlS at e
  split at e
  · split at e
    · rename_i hz
      cases e
      exact ⟨_, vw_str h, by rw [sizeLine_eq]; exact hz, q _ _ .refl rr_str⟩
    · cases e
  · cases e
def fLeS : Val → Val → Option T
  | .str a, .str b => vB (!decide (b.cps.toList < a.cps.toList))
  | _, _ => none
theorem p_leS {K : PySem.W.Frag} : P2 K (fun x y H Q => ∃ i j, x = .str i ∧ y = .str j ∧ Q (.bl (!decide (j.cps.toList < i.cps.toList))) H) fLeS := by
  intro g H v1 v2 w1 w2 t Q wf h1 h2 e q
  unfold fLeS at e
  split at e
  · cases e
    rw [vw_str h1, vw_str h2]
    exact ⟨_, _, rfl, rfl, q _ _ .refl rr_bl⟩
  · cases e
end Sm

namespace Sm
open PySem L2
/-! what a computation comes to: rules, one for each construct -/
structure Tag0 {β : Type} (Q : β) : Type where
def wp {α : Type} (m : M α) (Q : α → MS → Prop) (st : MS) (_ : Tag0 Q := ⟨⟩) : Prop := match m st with
  | .ok a s => Q a s
  | _ => False
@[irreducible] def wpc (mf : MF) (vs : List Val) (hp : List Ob) (Q : T → List Ob → Prop) (_ : Tag0 Q := ⟨⟩) : Prop := match mf vs hp with
  | .ok t s => Q t s.hp
  | _ => False
def wO {α : Type} (o : Option α) (Q : α → Prop) (_ : Tag0 Q := ⟨⟩) : Prop := match o with
  | some t => Q t
  | none => False
def wB (o : Option Val) (Q : Bool → Prop) (_ : Tag0 Q := ⟨⟩) : Prop := match o with
  | some (.bl b) => Q b
  | _ => False
def wI (o : Option Val) (Q : Int → Prop) (_ : Tag0 Q := ⟨⟩) : Prop := match o with
  | some (.int b) => Q b
  | _ => False
def wIf (k : Bool) (A B : Prop) (_ : Tag0 (A, B) := ⟨⟩) : Prop := if k = true then A else B
theorem wIf_t {A B : Prop} : wIf true A B = A := rfl
theorem wIf_f {A B : Prop} : wIf false A B = B := rfl
theorem wIf_sp {k : Bool} {A B : Prop} (h1 : k = true → A) (h2 : k = false → B) : wIf k A B := by
  cases k
  · exact h2 rfl
  · exact h1 rfl
def wNx (b : M Fl) (Q : Fl → MS → Prop) (f : Fl) (s : MS) : Prop := match f with
  | .nx => wp b Q s
  | f => Q f s
def wLp (J : MS → Prop) (Q : Fl → MS → Prop) (f : Fl) (s : MS) : Prop := match f with
  | .nx => J s
  | .cnt => J s
  | .brk => Q .nx s
  | .ret t => Q (.ret t) s
def wGive (Q : Fl → MS → Prop) (t : T) (s : MS) : Prop := match t with
  | .val v => Q (.ret (.val v)) s
  | .own v => Q (.ret (.own v)) s
  | .loc i => match s.sl[i]? with
    | some (.val v) => Q (.ret (.val v)) s
    | some (.own vs) => Q (.ret (.own vs)) { s with sl := s.sl.set i .no }
    | _ => False
def wEnd (f : Fl) (Q : T → Prop) : Prop := match f with
  | .nx => Q (.val .non)
  | .ret t => Q t
  | _ => False
def op2 {α β γ : Type} (f : α → β → Option γ) (a : Option α) (b : Option β) : Option γ := match a, b with
  | some x, some y => f x y
  | _, _ => none
def op1 {α γ : Type} (f : α → Option γ) (a : Option α) : Option γ := match a with
  | some x => f x
  | _ => none
section
variable {α β : Type} {Q : α → MS → Prop} {QF : Fl → MS → Prop} {QT : T → MS → Prop} {QB : Bool → MS → Prop} {QU : Unit → MS → Prop} {st : MS} {i j : Nat} {n : Nat} {m ma mb mc : M T} {c c1 c2 : M Bool} {a b body : M Fl} {ms : M (List T)} {mi : M (List Val)} {QL : List Val → MS → Prop} {QA : List T → MS → Prop}
theorem wp_bind {m : M β} {k : β → M α} : wp (fun st => (m st).bind k) Q st = wp m (fun a s => wp (k a) Q s) st := by
  unfold wp; dsimp only
  cases m st <;> rfl
theorem wp_congr {m : M α} {Q' : α → MS → Prop} (h : ∀ a s, Q a s = Q' a s) : wp m Q st = wp m Q' st := by
  unfold wp; cases m st <;> first | rfl | exact h _ _
theorem wB_congr {o : Option Val} {Q Q' : Bool → Prop} (h : ∀ b, Q b = Q' b) : wB o Q = wB o Q' := by
  have : Q = Q' := funext h
  rw [this]
theorem wI_congr {o : Option Val} {Q Q' : Int → Prop} (h : ∀ b, Q b = Q' b) : wI o Q = wI o Q' := by
  have : Q = Q' := funext h
  rw [this]
theorem wO_congr {o : Option α} {Q Q' : α → Prop} (h : ∀ b, Q b = Q' b) : wO o Q = wO o Q' := by
  have : Q = Q' := funext h
  rw [this]
theorem wp_imp {m : M α} {Q' : α → MS → Prop} (h : ∀ a s, Q a s → Q' a s) : wp m Q st → wp m Q' st := by
  unfold wp; cases m st <;> first | exact h _ _ | exact id
theorem wpc_imp {mf : MF} {vs : List Val} {hp : List Ob} {Q Q' : T → List Ob → Prop} (h : ∀ a s, Q a s → Q' a s) : wpc mf vs hp Q → wpc mf vs hp Q' := by
  unfold wpc; cases mf vs hp <;> first | exact h _ _ | exact id
theorem e_skip : wp mSkip QF st = QF .nx st := rfl
theorem e_bad : wp mBad QF st = False := rfl
theorem e_expr : wp (mExpr m) QF st = wp m (fun _ s => QF .nx s) st := wp_bind
theorem e_seq : wp (mSeq a b) QF st = wp a (fun f s => wNx b QF f s) st := by
  refine (wp_bind (m := a)).trans (wp_congr fun f s => ?_)
  cases f <;> rfl
theorem wNx_nx {s : MS} : wNx b QF .nx s = wp b QF s := rfl
theorem wNx_brk {s : MS} : wNx b QF .brk s = QF .brk s := rfl
theorem wNx_cnt {s : MS} : wNx b QF .cnt s = QF .cnt s := rfl
theorem wNx_ret {s : MS} {t : T} : wNx b QF (.ret t) s = QF (.ret t) s := rfl
theorem wLp_nx {J : MS → Prop} {s : MS} : wLp J QF .nx s = J s := rfl
theorem wLp_brk {J : MS → Prop} {s : MS} : wLp J QF .brk s = QF .nx s := rfl
theorem wLp_cnt {J : MS → Prop} {s : MS} : wLp J QF .cnt s = J s := rfl
theorem wLp_ret {J : MS → Prop} {s : MS} {t : T} : wLp J QF (.ret t) s = QF (.ret t) s := rfl
theorem e_pure {f : Fl} : wp (mPure f) QF st = QF f st := rfl
theorem e_ret : wp (mRet m) QF st = wp m (fun t s => wGive QF t s) st := by
  refine (wp_bind (m := m)).trans (wp_congr fun t s => ?_)
  unfold wp wGive give
  cases t with
  | val v => rfl
  | own v => rfl
  | loc i =>
    dsimp only
    cases s.sl[i]? with
    | none => rfl
    | some x => cases x <;> rfl
theorem wGive_val {v : Val} : wGive QF (.val v) st = QF (.ret (.val v)) st := rfl
theorem wGive_own {v : List Val} : wGive QF (.own v) st = QF (.ret (.own v)) st := rfl
theorem wGive_loc : wGive QF (.loc i) st = (match st.sl[i]? with
    | some (.val v) => QF (.ret (.val v)) st
    | some (.own vs) => QF (.ret (.own vs)) { st with sl := st.sl.set i .no }
    | _ => False) := rfl
theorem e_if : wp (mIf c a b) QF st = wp c (fun k s => wIf k (wp a QF s) (wp b QF s)) st := by
  refine (wp_bind (m := c)).trans (wp_congr fun k s => ?_)
  cases k <;> rfl
theorem e_ifE : wp (mIfE c ma mb) QT st = wp c (fun k s => wIf k (wp ma QT s) (wp mb QT s)) st := by
  refine (wp_bind (m := c)).trans (wp_congr fun k s => ?_)
  cases k <;> rfl
theorem e_not : wp (mNot c) QB st = wp c (fun k s => QB (!k) s) st := wp_bind
theorem e_and : wp (mAnd c1 c2) QB st = wp c1 (fun k s => wIf k (wp c2 QB s) (QB false s)) st := by
  refine (wp_bind (m := c1)).trans (wp_congr fun k s => ?_)
  cases k <;> rfl
theorem e_or : wp (mOr c1 c2) QB st = wp c1 (fun k s => wIf k (QB true s) (wp c2 QB s)) st := by
  refine (wp_bind (m := c1)).trans (wp_congr fun k s => ?_)
  cases k <;> rfl
theorem wp_asB {o : Option Val} {s : MS} : wp (fun s => asB o s) QB s = wB o (fun b => QB b s) := by
  unfold wp wB asB
  cases o with
  | none => rfl
  | some v => cases v <;> rfl
theorem wp_asI {o : Option Val} {s : MS} {QI : Int → MS → Prop} : wp (fun s => asI o s) QI s = wI o (fun b => QI b s) := by
  unfold wp wI asI
  cases o with
  | none => rfl
  | some v => cases v <;> rfl
theorem e_tst : wp (mTst m) QB st = wp m (fun t s => wB (view t s) fun b => QB b s) st := (wp_bind (m := m)).trans (wp_congr fun t s => wp_asB)
theorem e_bool : wp (mBool c) QT st = wp c (fun k s => QT (.val (.bl k)) s) st := wp_bind
theorem e_yes : wp mYes QB st = QB true st := rfl
theorem wB_bl {k : Bool} {Q : Bool → Prop} : wB (some (.bl k)) Q = Q k := rfl
theorem wI_int {k : Int} {Q : Int → Prop} : wI (some (.int k)) Q = Q k := rfl
theorem wO_some {x : α} {Q : α → Prop} : wO (some x) Q = Q x := rfl
theorem e_c {v : Val} : wp (mC v) QT st = QT (.val v) st := rfl
theorem e_v : wp (mV i) QT st = (match st.sl[i]? with
  | some (.val v) => QT (.val v) st
  | some (.own _) => QT (.loc i) st
  | _ => False) := by
  unfold wp mV
  cases st.sl[i]? with
  | none => rfl
  | some x => cases x <;> rfl
theorem wp_outT {o : Option T} {s : MS} : wp (fun s => outT o s) QT s = wO o (fun t => QT t s) := by
  unfold wp wO outT
  cases o <;> rfl
theorem wp_vop2 {f : Val → Val → Option T} {t1 t2 : T} {s : MS} : wp (vop2 f t1 t2) QT s = wO (op2 f (view t1 s) (view t2 s)) fun t => QT t s := by
  unfold wp vop2 op2 wO
  cases view t1 s with
  | none => rfl
  | some x =>
    cases view t2 s with
    | none => rfl
    | some y => cases h : f x y <;> simp [outT, h]
theorem wp_vop1 {f : Val → Option T} {t1 : T} {s : MS} : wp (vop1 f t1) QT s = wO (op1 f (view t1 s)) fun t => QT t s := by
  unfold wp vop1 op1 wO
  cases view t1 s with
  | none => rfl
  | some x => cases h : f x <;> simp [outT, h]
theorem wp_vopN {f : List Val → Option T} {ts : List T} {s : MS} : wp (vopN f ts) QT s = wO (op1 f (views ts s)) fun t => QT t s := by
  unfold wp vopN op1 wO
  cases views ts s with
  | none => rfl
  | some x => cases h : f x <;> simp [outT, h]
theorem e_op1 {f : Val → Option T} : wp (mOp1 f m) QT st = wp m (fun t s => wO (op1 f (view t s)) fun t => QT t s) st := (wp_bind (m := m)).trans (wp_congr fun t s => wp_vop1)
theorem e_op2 {f : Val → Val → Option T} : wp (mOp2 f ma mb) QT st = wp ma (fun t1 s1 => wp mb (fun t2 s2 => wO (op2 f (view t1 s2) (view t2 s2)) fun t => QT t s2) s1) st :=
  (wp_bind (m := ma)).trans (wp_congr fun t s => (wp_bind (m := mb)).trans (wp_congr fun t s => wp_vop2))
theorem e_a0 : wp mA0 QA st = QA [] st := rfl
theorem e_a1 : wp (mA1 m ms) QA st = wp m (fun t s => wp ms (fun ts s2 => QA (t :: ts) s2) s) st :=
  (wp_bind (m := m)).trans (wp_congr fun t s => wp_bind (m := ms))
theorem e_cb {f : List Val → Option T} : wp (mCB f ms) QT st = wp ms (fun ts s => wO (op1 f (views ts s)) fun t => QT t s) st := (wp_bind (m := ms)).trans (wp_congr fun t s => wp_vopN)
theorem e_chain {f f' : Val → Val → Option T} : wp (mChain f f' ma mb mc) QT st = wp ma (fun t1 s1 => wp mb (fun t2 s2 => wO (op2 f (view t1 s2) (view t2 s2)) fun t => wB (view t s2) fun k => wIf k (wp mc (fun t3 s3 => wO (op2 f' (view t2 s3) (view t3 s3)) fun t => QT t s3) s2) (QT (.val (.bl false)) s2)) s1) st := by
  refine (wp_bind (m := ma)).trans (wp_congr fun t s => (wp_bind (m := mb)).trans (wp_congr fun t2 s2 => (wp_bind (m := vop2 f t t2)).trans (wp_vop2.trans ?_)))
  refine wO_congr fun t3 => ?_
  refine (wp_bind (m := fun s => asB (view t3 s2) s)).trans (wp_asB.trans ?_)
  refine wB_congr fun k => ?_
  cases k
  · rfl
  · exact (wp_bind (m := mc)).trans (wp_congr fun t s => wp_vop2)
theorem e_andV : wp (mAndV ma mb) QT st = wp ma (fun t s => wB (view t s) fun k => wIf k (wp mb QT s) (QT (.val (.bl false)) s)) st := by
  refine (wp_bind (m := ma)).trans (wp_congr fun t s => (wp_bind (m := fun s' => asB (view t s) s')).trans (wp_asB.trans ?_))
  refine wB_congr fun k => ?_
  cases k <;> rfl
theorem e_orV : wp (mOrV ma mb) QT st = wp ma (fun t s => wB (view t s) fun k => wIf k (QT (.val (.bl true)) s) (wp mb QT s)) st := by
  refine (wp_bind (m := ma)).trans (wp_congr fun t s => (wp_bind (m := fun s' => asB (view t s) s')).trans (wp_asB.trans ?_))
  refine wB_congr fun k => ?_
  cases k <;> rfl
theorem e_notV : wp (mNotV ma) QT st = wp ma (fun t s => wB (view t s) fun k => QT (.val (.bl (!k))) s) st :=
  (wp_bind (m := ma)).trans (wp_congr fun t s => (wp_bind (m := fun s' => asB (view t s) s')).trans wp_asB)
theorem e_take_val {v : Val} : wp (mTake (.val v)) QV st = QV v st := rfl
theorem e_take_own {v : List Val} : wp (mTake (.own v)) QV st = QV (.lst v) st := rfl
theorem e_take_loc : wp (mTake (.loc i)) QV st = (match st.sl[i]? with
    | some (.val v) => QV v st
    | some (.own vs) => QV (.lst vs) { st with sl := st.sl.set i (.val (.lst vs)) }
    | _ => False) := by
  unfold wp mTake
  dsimp only
  cases st.sl[i]? with
  | none => rfl
  | some x => cases x <;> rfl
theorem e_takes0 : wp (mTakes []) QL st = QL [] st := rfl
theorem e_takes1 {t : T} {ts : List T} : wp (mTakes (t :: ts)) QL st = wp (mTake t) (fun v s => wp (mTakes ts) (fun vs s2 => QL (v :: vs) s2) s) st :=
  (wp_bind (m := mTake t)).trans (wp_congr fun t s => wp_bind (m := mTakes ts))
theorem e_tup : wp (mTup ms) QT st = wp ms (fun ts s => wp (mTakes ts) (fun vs s2 => vs.length ≤ 1000 ∧ QT (.val (.tup vs)) s2) s) st := by
  refine (wp_bind (m := ms)).trans (wp_congr fun ts s => (wp_bind (m := mTakes ts)).trans (wp_congr fun vs s => ?_))
  unfold wp
  by_cases h : vs.length ≤ 1000
  · simp [h]
  · simp [h]
theorem e_lst : wp (mLst ms) QT st = wp ms (fun ts s => wp (mTakes ts) (fun vs s2 => vs.length ≤ 1000 ∧ QT (.own vs) s2) s) st := by
  refine (wp_bind (m := ms)).trans (wp_congr fun ts s => (wp_bind (m := mTakes ts)).trans (wp_congr fun vs s => ?_))
  unfold wp
  by_cases h : vs.length ≤ 1000
  · simp [h]
  · simp [h]
def wBox (QT : T → MS → Prop) (t : T) (s : MS) : Prop := match t with
  | .own vs => QT (.val (.ref s.hp.length)) { s with hp := s.hp ++ [.lst vs] }
  | _ => False
theorem wBox_own {vs : List Val} : wBox QT (.own vs) st = QT (.val (.ref st.hp.length)) { st with hp := st.hp ++ [.lst vs] } := rfl
theorem e_box : wp (mBox m) QT st = wp m (fun t s => wBox QT t s) st := by
  refine (wp_bind (m := m)).trans (wp_congr fun t s => ?_)
  cases t <;> rfl
theorem e_call {k : Nat} {mf : MF} : wp (mCall k mf ms) QT st = wp ms (fun ts s => wp (mTakes ts) (fun vs s2 => vs.length = k ∧ wpc mf vs s2.hp fun t hp => QT t ⟨hp, s2.sl⟩) s) st := by
  refine (wp_bind (m := ms)).trans (wp_congr fun ts s => (wp_bind (m := mTakes ts)).trans (wp_congr fun vs s => ?_))
  unfold wp wpc
  dsimp only
  by_cases h : vs.length = k
  · rw [if_pos h]
    simp only [h, true_and]
    cases mf vs s.hp <;> rfl
  · rw [if_neg h]
    simp [h]
theorem e_body {k : Nat} {m : M Fl} {vs : List Val} {hp : List Ob} {Q : T → List Ob → Prop} : wpc (mBody k m) vs hp Q = wp m (fun f s => wEnd f fun t => Q t s.hp) ⟨hp, vs.map .val ++ List.replicate (k - vs.length) .no⟩ := by
  unfold wpc mBody wp
  cases m ⟨hp, vs.map .val ++ List.replicate (k - vs.length) .no⟩ with
  | ok f s => cases f <;> rfl
  | exc _ _ => rfl
  | bad => rfl
theorem wEnd_nx {Q : T → Prop} : wEnd .nx Q = Q (.val .non) := rfl
theorem wEnd_ret {Q : T → Prop} {t : T} : wEnd (.ret t) Q = Q t := rfl
theorem e_okU {u : M Unit} : wp (fun s => okU (u s)) QF st = wp u (fun _ s => QF .nx s) st := by
  unfold wp okU
  dsimp only
  cases u st <;> rfl
theorem e_asg {mt : T → M Unit} : wp (mAsg m mt) QF st = wp m (fun t s => wp (mt t) (fun _ s => QF .nx s) s) st :=
  (wp_bind (m := m)).trans (wp_congr fun t s => e_okU (u := mt t))
theorem e_setV {v : Val} : wp (setV i v) QU st = (i < st.sl.length ∧ QU () { st with sl := st.sl.set i (.val v) }) := by
  unfold wp setV
  by_cases h : i < st.sl.length <;> simp [h]
theorem e_gn_val {v : Val} : wp (mGN i (.val v)) QU st = (i < st.sl.length ∧ QU () { st with sl := st.sl.set i (.val v) }) := e_setV
theorem e_gn_own {v : List Val} : wp (mGN i (.own v)) QU st = (i < st.sl.length ∧ QU () { st with sl := st.sl.set i (.own v) }) := by
  unfold wp mGN
  by_cases h : i < st.sl.length <;> simp [h]
theorem e_gn_loc : wp (mGN i (.loc j)) QU st = wp (mTake (.loc j)) (fun v s => i < s.sl.length ∧ QU () { s with sl := s.sl.set i (.val v) }) st :=
  (wp_bind (m := mTake (.loc j))).trans (wp_congr fun v s => e_setV)
theorem e_gs0 : wp (mGs0 []) QU st = QU () st := rfl
theorem e_gs1 {mt : T → M Unit} {mts : List Val → M Unit} {v : Val} {r : List Val} : wp (mGs1 mt mts (v :: r)) QU st = wp (mt (.val v)) (fun _ s => wp (mts r) QU s) st := wp_bind (m := mt (.val v))
theorem e_gt {k : Nat} {mts : List Val → M Unit} {t : T} : wp (mGT k mts t) QU st = (match view t st with
  | some (.tup vs) => vs.length = k ∧ wp (mts vs) QU st
  | _ => False) := by
  unfold wp mGT
  cases view t st with
  | none => rfl
  | some v =>
    cases v <;> try rfl
    rename_i vs
    dsimp only
    by_cases h : vs.length = k <;> simp [h]
theorem e_gsub {t : T} : wp (mGSub ma mb t) QU st = wp (mTake t) (fun v s1 => wp ma (fun o s2 => wp mb (fun i s3 => wI (view i s3) fun k => wp (putL o k v) QU s3) s2) s1) st :=
  (wp_bind (m := mTake t)).trans (wp_congr fun v s => (wp_bind (m := ma)).trans (wp_congr fun o s => (wp_bind (m := mb)).trans (wp_congr fun i s => (wp_bind (m := fun s' => asI (view i s) s')).trans wp_asI)))
theorem e_put_ref {k : Int} {v : Val} : wp (putL (.val (.ref n)) k v) QU st = (match st.hp[n]? with
    | some (.lst vs) => wO (ixN vs.length k) fun j => QU () { st with hp := st.hp.set n (.lst (vs.set j v)) }
    | _ => False) := by
  unfold wp putL wO
  dsimp only
  cases st.hp[n]? with
  | none => rfl
  | some x =>
    cases x <;> try rfl
    rename_i vs
    dsimp only
    cases ixN vs.length k <;> rfl
theorem e_put_loc {k : Int} {v : Val} : wp (putL (.loc n) k v) QU st = (match st.sl[n]? with
    | some (.own vs) => wO (ixN vs.length k) fun j => QU () { st with sl := st.sl.set n (.own (vs.set j v)) }
    | _ => False) := by
  unfold wp putL wO
  dsimp only
  cases st.sl[n]? with
  | none => rfl
  | some x =>
    cases x <;> try rfl
    rename_i vs
    dsimp only
    cases ixN vs.length k <;> rfl
theorem e_aug {f : Val → Val → Option T} : wp (mAug i f m) QF st = wp (mV i) (fun t0 s0 => wp m (fun t s1 => wO (op2 f (view t0 s1) (view t s1)) fun t2 => wp (mGN i t2) (fun _ s => QF .nx s) s1) s0) st :=
  (wp_bind (m := mV i)).trans (wp_congr fun t0 s => (wp_bind (m := m)).trans (wp_congr fun t s1 => (wp_bind (m := vop2 f t0 t)).trans (wp_vop2.trans (wO_congr fun t2 => e_okU (u := mGN i t2)))))
theorem e_for {gt : T → M Unit} : wp (mFor mi gt body) QF st = wp mi (fun xs s => wp (loop gt body xs) QF s) st := wp_bind (m := mi)
theorem e_loop0 {gt : T → M Unit} : wp (loop gt body []) QF st = QF .nx st := rfl
theorem e_loop1 {gt : T → M Unit} {x : Val} {xs : List Val} : wp (loop gt body (x :: xs)) QF st = wp (gt (.val x)) (fun _ s => wp body (fun f s2 => wLp (fun s => wp (loop gt body xs) QF s) QF f s2) s) st :=
  (wp_bind (m := gt (.val x))).trans (wp_congr fun _ s => (wp_bind (m := body)).trans (wp_congr fun f s => by cases f <;> rfl))
def wItems (QL : List Val → MS → Prop) (v : Val) (s : MS) : Prop := match v with
  | .tup vs => QL vs s
  | .ktup vs => QL vs s
  | .lst vs => QL vs s
  | .scr vs => QL vs s
  | _ => False
theorem e_items : wp (mItems m) QL st = wp m (fun t s => wp (mTake t) (fun v s => wItems QL v s) s) st :=
  (wp_bind (m := m)).trans (wp_congr fun t s => (wp_bind (m := mTake t)).trans (wp_congr fun v s => by cases v <;> rfl))
theorem wItems_tup {vs : List Val} : wItems QL (.tup vs) st = QL vs st := rfl
theorem wItems_ktup {vs : List Val} : wItems QL (.ktup vs) st = QL vs st := rfl
theorem wItems_lst {vs : List Val} : wItems QL (.lst vs) st = QL vs st := rfl
theorem wItems_scr {vs : List Val} : wItems QL (.scr vs) st = QL vs st := rfl
theorem e_rng1 : wp (mRng1 m) QL st = wp m (fun t s => wI (view t s) fun j => (-(2 ^ 62) ≤ j ∧ j < 2 ^ 62) ∧ QL (intR 0 j.toNat) s) st := by
  refine (wp_bind (m := m)).trans (wp_congr fun t s => (wp_bind (m := fun s' => asI (view t s) s')).trans (wp_asI.trans ?_))
  refine wI_congr fun j => ?_
  unfold wp
  by_cases h : -(2 ^ 62) ≤ j ∧ j < 2 ^ 62
  · dsimp only; rw [if_pos h]; simp only [h, and_self, true_and]
  · dsimp only; rw [if_neg h]; simp only [h, false_and]
theorem e_lrng : wp (mLRng m) QT st = wp m (fun t s => wI (view t s) fun j => (0 ≤ j ∧ j ≤ 16777216) ∧ QT (.own (intR 0 j.toNat)) s) st := by
  refine (wp_bind (m := m)).trans (wp_congr fun t s => (wp_bind (m := fun s' => asI (view t s) s')).trans (wp_asI.trans ?_))
  refine wI_congr fun j => ?_
  unfold wp
  by_cases h : 0 ≤ j ∧ j ≤ 16777216
  · dsimp only; rw [if_pos h]; simp only [h, and_self, true_and]
  · dsimp only; rw [if_neg h]; simp only [h, false_and]
def wEnu (QL : List Val → MS → Prop) (v : Val) (s : MS) : Prop := match v with
  | .tup vs => QL (enumF 0 vs) s
  | .lst vs => QL (enumF 0 vs) s
  | _ => False
theorem wEnu_tup {vs : List Val} : wEnu QL (.tup vs) st = QL (enumF 0 vs) st := rfl
theorem wEnu_lst {vs : List Val} : wEnu QL (.lst vs) st = QL (enumF 0 vs) st := rfl
theorem e_enum : wp (mEnum m) QL st = wp m (fun t s => wp (mTake t) (fun v s => wEnu QL v s) s) st :=
  (wp_bind (m := m)).trans (wp_congr fun t s => (wp_bind (m := mTake t)).trans (wp_congr fun v s => by cases v <;> rfl))
theorem e_ch {f : List Val → List Val → Option (List Val × Val)} : wp (mCh f m ms) QT st = wp m (fun o s1 => isL o s1 = true ∧ wp ms (fun ts s2 => wp (mTakes ts) (fun vs s3 => wp (chL o fun l => f l vs) QT s3) s2) s1) st := by
  refine (wp_bind (m := m)).trans (wp_congr fun t s => ?_)
  by_cases h : isL t s = true
  · unfold wp; dsimp only; rw [if_pos h]
    simp only [h, true_and]
    exact (wp_bind (m := ms)).trans (wp_congr fun t s => wp_bind (m := mTakes t))
  · unfold wp; dsimp only; rw [if_neg h]
    simp [h]
theorem e_ch_loc {f : List Val → Option (List Val × Val)} : wp (chL (.loc i) f) QT st = (match st.sl[i]? with
    | some (.own vs) => wO (f vs) fun r => QT (.val r.2) { st with sl := st.sl.set i (.own r.1) }
    | _ => False) := by
  unfold wp chL wO
  dsimp only
  cases st.sl[i]? with
  | none => rfl
  | some x =>
    cases x <;> try rfl
    rename_i vs
    dsimp only
    cases f vs <;> rfl
theorem isL_loc {s : MS} : isL (.loc i) s = (match s.sl[i]? with | some (.own _) => true | _ => false) := rfl
def wDic (st : MS) (t : T) (Q : Nat → List (Val × Val) → Prop) (_ : Tag0 Q := ⟨⟩) : Prop := match dicAt t st with
  | some (n, kvs) => Q n kvs
  | none => False
theorem wDic_ref {Q : Nat → List (Val × Val) → Prop} : wDic st (.val (.ref n)) Q = (match st.hp[n]? with
  | some (.dic kvs) => Q n kvs
  | _ => False) := by
  unfold wDic dicAt
  dsimp only
  cases st.hp[n]? with
  | none => rfl
  | some x => cases x <;> rfl
theorem e_dnew : wp mDNew QT st = QT (.val (.ref st.hp.length)) { st with hp := st.hp ++ [.dic []] } := rfl
theorem e_dget : wp (mDGet ma mb) QT st = wp ma (fun o s1 => wp mb (fun i s2 => wDic s2 o fun n kvs => wO ((view i s2).bind keyOf) fun k => wO (lookD kvs k) fun v => QT (.val v) s2) s1) st := by
  refine (wp_bind (m := ma)).trans (wp_congr fun t s => (wp_bind (m := mb)).trans (wp_congr fun i s2 => ?_))
  unfold wp dGetT wDic wO
  dsimp only
  cases dicAt t s2 with
  | none => rfl
  | some p =>
    dsimp only
    cases (view i s2).bind keyOf with
    | none => rfl
    | some k =>
      dsimp only
      cases lookD p.2 k <;> rfl
theorem e_din {neg : Bool} : wp (mDIn neg ma mb) QT st = wp ma (fun i s1 => wp mb (fun o s2 => wDic s2 o fun n kvs => wO ((view i s2).bind keyOf) fun k => QT (.val (.bl (if neg then !(lookD kvs k).isSome else (lookD kvs k).isSome))) s2) s1) st := by
  refine (wp_bind (m := ma)).trans (wp_congr fun t s => (wp_bind (m := mb)).trans (wp_congr fun i s2 => ?_))
  unfold wp dHasT wDic wO
  dsimp only
  cases dicAt i s2 with
  | none => rfl
  | some p =>
    dsimp only
    cases (view t s2).bind keyOf <;> rfl
theorem e_dput : wp (mDPut mc ma mb) QF st = wp mc (fun t s1 => wp (mTake t) (fun v s1' => wp ma (fun o s2 => wp mb (fun i s3 => wDic s3 o fun n kvs => wO ((view i s3).bind keyOf) fun k => kvs.length < 16777216 ∧ QF .nx { s3 with hp := s3.hp.set n (.dic (putD kvs k v)) }) s2) s1') s1) st := by
  refine (wp_bind (m := mc)).trans (wp_congr fun t s => (wp_bind (m := mTake t)).trans (wp_congr fun v s1 => (wp_bind (m := ma)).trans (wp_congr fun o s2 => (wp_bind (m := mb)).trans (wp_congr fun i s3 => ?_))))
  unfold wp dPutT wDic wO
  dsimp only
  cases dicAt o s3 with
  | none => rfl
  | some p =>
    dsimp only
    cases (view i s3).bind keyOf with
    | none => rfl
    | some k =>
      dsimp only
      by_cases h : p.2.length < 16777216 <;> simp [h]
theorem e_comp {vs : List Nat} {gt : T → M Unit} {ct : M Bool} {el : M T} : wp (mComp vs mi gt ct el) QT st = wp mi (fun xs s1 => xs.length ≤ 16777216 ∧ wp (cloop vs gt ct el xs) (fun ys s2 => QT (.own ys) { s2 with sl := unwipe s1.sl s2.sl vs }) s1) st := by
  refine (wp_bind (m := mi)).trans (wp_congr fun xs s => ?_)
  unfold wp
  by_cases h : xs.length ≤ 16777216
  · dsimp only; rw [if_pos h]
    simp only [h, true_and]
    cases cloop vs gt ct el xs s <;> rfl
  · dsimp only; rw [if_neg h]
    simp only [h, false_and]
theorem e_cloop0 {vs : List Nat} {gt : T → M Unit} {ct : M Bool} {el : M T} : wp (cloop vs gt ct el []) QL st = QL [] st := rfl
theorem e_cloop1 {vs : List Nat} {gt : T → M Unit} {ct : M Bool} {el : M T} {x : Val} {xs : List Val} : wp (cloop vs gt ct el (x :: xs)) QL st = wp (gt (.val x)) (fun _ s1 => wp ct (fun b s2 => if b = true then wp el (fun t s3 => wp (mTake t) (fun v s4 => wp (cloop vs gt ct el xs) (fun ys s5 => QL (v :: ys) s5) s4) s3) s2 else wp (cloop vs gt ct el xs) QL s2) s1) { st with sl := wipeS st.sl vs } := by
  show wp (fun st => (gt (.val x) st).bind fun _ st1 => (ct st1).bind fun b st2 => if b = true then (el st2).bind fun t st3 => (mTake t st3).bind fun v st4 => (cloop vs gt ct el xs st4).bind fun ys st5 => .ok (v :: ys) st5 else cloop vs gt ct el xs st2) QL { st with sl := wipeS st.sl vs } = _
  refine (wp_bind (m := gt (.val x))).trans (wp_congr fun _ s => (wp_bind (m := ct)).trans (wp_congr fun b s => ?_))
  cases b
  · rfl
  · exact (wp_bind (m := el)).trans (wp_congr fun t s => (wp_bind (m := mTake t)).trans (wp_congr fun v s => wp_bind (m := cloop vs gt ct el xs)))
theorem if_via {k : Bool} {m1 m2 : M α} {C : α → MS → Prop} (P : α → MS → Prop) (h1 : k = true → wp m1 P st) (h2 : k = false → wp m2 P st) (h : ∀ t s, P t s → C t s) : wIf k (wp m1 C st) (wp m2 C st) :=
  wIf_sp (fun e => wp_imp h (h1 e)) (fun e => wp_imp h (h2 e))
/-! loops -/
theorem wp_loop {γ : Type} {enc : γ → Val} {gt : T → M Unit} (I : List γ → MS → Prop) {xs : List γ} (h0 : I xs st)
    (hs : ∀ x xs s, I (x :: xs) s → wp (gt (.val (enc x))) (fun _ s1 => wp body (fun f s2 => wLp (I xs) QF f s2) s1) s) (he : ∀ s, I [] s → QF .nx s) : wp (loop gt body (xs.map enc)) QF st := by
  induction xs generalizing st with
  | nil => exact he _ h0
  | cons x xs ih =>
    show wp (loop gt body (enc x :: xs.map enc)) QF st
    rw [e_loop1]
    refine wp_imp (fun _ s h => wp_imp (fun f s2 h2 => ?_) h) (hs x xs st h0)
    cases f <;> first | exact ih h2 | exact h2
theorem wp_cloop {γ : Type} {enc : γ → Val} {vs : List Nat} {gt : T → M Unit} {ct : M Bool} {el : M T} (I : List γ → List Val → MS → Prop) {xs : List γ} (h0 : I xs [] st)
    (hs : ∀ x xs ys s, I (x :: xs) ys s → wp (gt (.val (enc x))) (fun _ s1 => wp ct (fun b s2 => wIf b (wp el (fun t s3 => wp (mTake t) (fun v s4 => I xs (ys ++ [v]) s4) s3) s2) (I xs ys s2)) s1) { s with sl := wipeS s.sl vs })
    (he : ∀ ys s, I [] ys s → QL ys s) : wp (cloop vs gt ct el (xs.map enc)) QL st := by
  suffices H : ∀ ys, I xs ys st → wp (cloop vs gt ct el (xs.map enc)) (fun zs s => QL (ys ++ zs) s) st from by
    have := H [] h0
    exact this
  clear h0
  induction xs generalizing st with
  | nil => intro ys h; show QL (ys ++ []) st; rw [List.append_nil]; exact he _ _ h
  | cons x xs ih =>
    intro ys h0
    show wp (cloop vs gt ct el (enc x :: xs.map enc)) _ st
    rw [e_cloop1]
    refine wp_imp (fun _ s h => wp_imp (fun b s2 h2 => ?_) h) (hs x xs ys st h0)
    unfold wIf at h2
    by_cases hb : b = true
    · rw [if_pos hb] at h2 ⊢
      refine wp_imp (fun t s3 h => wp_imp (fun v s4 h4 => ?_) h) h2
      have := ih _ h4
      refine wp_imp (fun zs s5 h => ?_) this
      rw [List.append_assoc] at h
      exact h
    · rw [if_neg hb] at h2 ⊢
      exact ih _ h2
end
theorem wp_cfilt {QL : List Val → MS → Prop} {st : MS} {γ : Type} {enc : γ → Val} {vs : List Nat} {gt : T → M Unit} {ct : M Bool} {el : M T} (p : γ → Bool) (f : γ → Val) (S : MS → Prop) {xs : List γ} (h0 : S st)
    (hs : ∀ x ∈ xs, ∀ s, S s → wp (gt (.val (enc x))) (fun _ s1 => wp ct (fun b s2 => wIf b (p x = true ∧ wp el (fun t s3 => wp (mTake t) (fun v s4 => v = f x ∧ S s4) s3) s2) (p x = false ∧ S s2)) s1) { s with sl := wipeS s.sl vs })
    (he : ∀ s, S s → QL ((xs.filter p).map f) s) : wp (cloop vs gt ct el (xs.map enc)) QL st := by
  refine wp_cloop (fun l ys s => S s ∧ ∃ pre, pre ++ l = xs ∧ ys = (pre.filter p).map f) ⟨h0, [], rfl, rfl⟩ (fun x l ys s h => ?_) (fun ys s h => ?_)
  · obtain ⟨h, pre, e, rfl⟩ := h
    have hx : x ∈ xs := e ▸ List.mem_append_right _ (.head _)
    have e1 : (pre ++ [x]) ++ l = xs := by rw [List.append_assoc]; exact e
    refine wp_imp (fun _ s1 h => wp_imp (fun b s2 h => ?_) h) (hs x hx s h)
    cases b
    · obtain ⟨hp, h⟩ := h
      exact ⟨h, pre ++ [x], e1, by rw [List.filter_append, List.map_append]; simp [hp]⟩
    · obtain ⟨hp, h⟩ := h
      exact wp_imp (fun t s3 h => wp_imp (fun v s4 h => ⟨h.2, pre ++ [x], e1, by rw [List.filter_append, List.map_append, h.1]; simp [hp]⟩) h) h
  · obtain ⟨h, pre, e, rfl⟩ := h
    rw [List.append_nil] at e
    subst e
    exact he _ h
/-! views -/
theorem view_val {v : Val} {st : MS} : view (.val v) st = some (deref st.hp v) := rfl
theorem view_own {v : List Val} {st : MS} : view (.own v) st = some (.lst v) := rfl
theorem view_loc {i : Nat} {st : MS} : view (.loc i) st = (match st.sl[i]? with
    | some (.val v) => some (deref st.hp v)
    | some (.own vs) => some (.lst vs)
    | _ => none) := rfl
theorem de_non {hp : List Ob} : deref hp .non = .non := rfl
theorem de_bl {hp : List Ob} {b : Bool} : deref hp (.bl b) = .bl b := rfl
theorem de_int {hp : List Ob} {b : Int} : deref hp (.int b) = .int b := rfl
theorem de_str {hp : List Ob} {b : Str} : deref hp (.str b) = .str b := rfl
theorem de_tup {hp : List Ob} {b : List Val} : deref hp (.tup b) = .tup b := rfl
theorem de_lst {hp : List Ob} {b : List Val} : deref hp (.lst b) = .lst b := rfl
theorem de_scr {hp : List Ob} {b : List Val} : deref hp (.scr b) = .scr b := rfl
theorem de_ty {hp : List Ob} {b : String} : deref hp (.ty b) = .ty b := rfl
theorem de_ref {hp : List Ob} {n : Nat} : deref hp (.ref n) = (match hp[n]? with
    | some (.lst vs) => .lst vs
    | _ => .ref n) := rfl
theorem vw0 {st : MS} : views [] st = some [] := rfl
theorem vw1 {t : T} {ts : List T} {st : MS} : views (t :: ts) st = (match view t st with
    | some v => match views ts st with
      | some vs => some (v :: vs)
      | none => none
    | none => none) := rfl
theorem op2_some {α β γ : Type} {f : α → β → Option γ} {a : α} {b : β} : op2 f (some a) (some b) = f a b := rfl
theorem op1_some {α γ : Type} {f : α → Option γ} {a : α} : op1 f (some a) = f a := rfl
theorem o_addI {i j : Int} : fAdd (.int i) (.int j) = vI (i + j) := rfl
theorem wO_if {α : Type} {c : Prop} [Decidable c] {x : α} {Q : α → Prop} : wO (if c then some x else none) Q = (c ∧ Q x) := by
  by_cases h : c <;> simp [h, wO]
section
variable {Q : T → Prop}
theorem o_addT {i j : List Val} : wO (fAdd (.tup i) (.tup j)) Q = (i.length + j.length ≤ 16777216 ∧ Q (.val (.tup (i ++ j)))) := wO_if
theorem o_addL {i j : List Val} : wO (fAdd (.lst i) (.lst j)) Q = (i.length + j.length ≤ 16777216 ∧ Q (.own (i ++ j))) := wO_if
theorem o_mod {i j : Int} : wO (fMod (.int i) (.int j)) Q = (j ≠ 0 ∧ Q (.val (.int (i.fmod j)))) := by
  refine (wO_if (c := (j != 0) = true)).trans ?_
  by_cases h : j = 0 <;> simp [h]
theorem o_div {i j : Int} : wO (fDiv (.int i) (.int j)) Q = ((j ≠ 0 ∧ -1073741824 < j ∧ j < 1073741824) ∧ Q (.val (.int (i.fdiv j)))) := by
  refine (wO_if (c := (j != 0 && decide (j.natAbs < 1073741824)) = true)).trans ?_
  have : ((j != 0 && decide (j.natAbs < 1073741824)) = true) = (j ≠ 0 ∧ -1073741824 < j ∧ j < 1073741824) := by
    simp only [Bool.and_eq_true, bne_iff_ne, ne_eq, decide_eq_true_eq, eq_iff_iff]
    omega
  rw [this]
theorem o_pow {i j : Int} : wO (fPow (.int i) (.int j)) Q = ((0 ≤ j ∧ j ≤ 1000000 ∧ -18446744073709551616 < i ∧ i < 18446744073709551616) ∧ Q (.val (.int (i ^ j.toNat)))) := by
  refine (wO_if (c := (decide (0 ≤ j ∧ j ≤ 1000000 ∧ i.natAbs < 2 ^ 64)) = true)).trans ?_
  have : ((decide (0 ≤ j ∧ j ≤ 1000000 ∧ i.natAbs < 2 ^ 64)) = true) = (0 ≤ j ∧ j ≤ 1000000 ∧ -18446744073709551616 < i ∧ i < 18446744073709551616) := by
    simp only [decide_eq_true_eq, eq_iff_iff]
    omega
  rw [this]
theorem o_mulI {i j : Int} : wO (fMul (.int i) (.int j)) Q = (((-(2 ^ 64) < i ∧ i < 2 ^ 64) ∨ (-(2 ^ 64) < j ∧ j < 2 ^ 64)) ∧ Q (.val (.int (i * j)))) := wO_if
end
theorem o_i2 {f : Int → Int → Int} {i j : Int} : fI2 f (.int i) (.int j) = vI (f i j) := rfl
theorem o_c {p : Int → Int → Bool} {i j : Int} : fC p (.int i) (.int j) = vB (p i j) := rfl
theorem o_ixL {i : Int} {vs : List Val} : fIx (.lst vs) (.int i) = (atI vs i).map .val := rfl
theorem o_ixT {i : Int} {vs : List Val} : fIx (.tup vs) (.int i) = (atI vs i).map .val := rfl
theorem at0 {α : Type} {a : α} {l : List α} : atI (a :: l) (0 : Int) = some a := by
  have := atI_nat (xs := a :: l) (j := 0) (v := a) rfl
  exact this
theorem at1 {α : Type} {a b : α} {l : List α} : atI (a :: b :: l) (1 : Int) = some b := by
  have := atI_nat (xs := a :: b :: l) (j := 1) (v := b) rfl
  exact this
theorem at2 {α : Type} {a b c : α} {l : List α} : atI (a :: b :: c :: l) (2 : Int) = some c := by
  have := atI_nat (xs := a :: b :: c :: l) (j := 2) (v := c) rfl
  exact this
theorem at3 {α : Type} {a b c d : α} {l : List α} : atI (a :: b :: c :: d :: l) (3 : Int) = some d := by
  have := atI_nat (xs := a :: b :: c :: d :: l) (j := 3) (v := d) rfl
  exact this
theorem at4 {α : Type} {a b c d e : α} {l : List α} : atI (a :: b :: c :: d :: e :: l) (4 : Int) = some e := by
  have := atI_nat (xs := a :: b :: c :: d :: e :: l) (j := 4) (v := e) rfl
  exact this
theorem o_lenL {vs : List Val} : fLen [.lst vs] = vI vs.length := rfl
theorem o_lenT {vs : List Val} : fLen [.tup vs] = vI vs.length := rfl
theorem o_lenS {vs : List Val} : fLen [.scr vs] = vI vs.length := rfl
theorem o_listL {vs : List Val} : fList [.lst vs] = some (.own vs) := rfl
theorem o_listT {vs : List Val} : fList [.tup vs] = some (.own vs) := rfl
theorem o_listS {vs : List Val} : fList [.scr vs] = some (.own vs) := rfl
theorem o_tupL {vs : List Val} : fTuple [.lst vs] = some (.val (.tup vs)) := rfl
theorem o_tupT {vs : List Val} : fTuple [.tup vs] = some (.val (.tup vs)) := rfl
theorem o_max2 {i j : Int} : fMax2 [.int i, .int j] = vI (if j > i then j else i) := rfl
theorem o_min2 {i j : Int} : fMin2 [.int i, .int j] = vI (if j < i then j else i) := rfl
theorem o_eqI {i j : Int} : fEq (.int i) (.int j) = vB (decide (i = j)) := by
  unfold fEq
  rw [if_pos ⟨rfl, rfl⟩]
  unfold vEq
  unfold toD
  show some (T.val (.bl (i == j))) = _
  by_cases h : i = j <;> simp [h]
theorem o_neI {i j : Int} : fNe (.int i) (.int j) = vB (!decide (i = j)) := by
  unfold fNe
  rw [if_pos ⟨rfl, rfl⟩]
  unfold vEq
  unfold toD
  show some (T.val (.bl (!(i == j)))) = _
  by_cases h : i = j <;> simp [h]
theorem o_isN {v : Val} : fIsN v .non = vB (isNon v) := rfl
theorem o_notN {v : Val} : fNotN v .non = vB (!isNon v) := rfl
theorem ch_app {vs : List Val} {v : Val} {Q : List Val × Val → Prop} : wO (chApp vs [v]) Q = (vs.length < 16777216 ∧ Q (vs ++ [v], .non)) := wO_if
theorem map_some {α β : Type} {f : α → β} {a : α} : Option.map f (some a) = some (f a) := rfl
theorem isi1 {v : Val} {b : String} : fIsi [v, .ty b] = if okTy b = true then (tyN v).bind fun a => vB (isTy a b) else none := by cases v <;> rfl
theorem isi2 {v : Val} {b c : String} : fIsi [v, .tup [.ty b, .ty c]] = if okTy b = true ∧ okTy c = true then (tyN v).bind fun a => vB (isTy a b || isTy a c) else none := by cases v <;> rfl
theorem tyN_NoneType : tyN Val.non = some "NoneType" := rfl
theorem tyN_bool {b : Bool} : tyN (Val.bl b) = some "bool" := rfl
theorem tyN_int {i : Int} : tyN (Val.int i) = some "int" := rfl
theorem tyN_str {s : Str} : tyN (Val.str s) = some "str" := rfl
theorem tyN_tuple {vs : List Val} : tyN (Val.tup vs) = some "tuple" := rfl
theorem tyN_list {vs : List Val} : tyN (Val.lst vs) = some "list" := rfl
theorem okTy_bool : okTy "bool" = true := by decide +kernel
theorem isTy_NoneType_bool : isTy "NoneType" "bool" = false := by decide +kernel
theorem isTy_bool_bool : isTy "bool" "bool" = true := by decide +kernel
theorem isTy_int_bool : isTy "int" "bool" = false := by decide +kernel
theorem isTy_str_bool : isTy "str" "bool" = false := by decide +kernel
theorem isTy_tuple_bool : isTy "tuple" "bool" = false := by decide +kernel
theorem isTy_list_bool : isTy "list" "bool" = false := by decide +kernel
theorem okTy_int : okTy "int" = true := by decide +kernel
theorem isTy_NoneType_int : isTy "NoneType" "int" = false := by decide +kernel
theorem isTy_bool_int : isTy "bool" "int" = true := by decide +kernel
theorem isTy_int_int : isTy "int" "int" = true := by decide +kernel
theorem isTy_str_int : isTy "str" "int" = false := by decide +kernel
theorem isTy_tuple_int : isTy "tuple" "int" = false := by decide +kernel
theorem isTy_list_int : isTy "list" "int" = false := by decide +kernel
theorem okTy_str : okTy "str" = true := by decide +kernel
theorem isTy_NoneType_str : isTy "NoneType" "str" = false := by decide +kernel
theorem isTy_bool_str : isTy "bool" "str" = false := by decide +kernel
theorem isTy_int_str : isTy "int" "str" = false := by decide +kernel
theorem isTy_str_str : isTy "str" "str" = true := by decide +kernel
theorem isTy_tuple_str : isTy "tuple" "str" = false := by decide +kernel
theorem isTy_list_str : isTy "list" "str" = false := by decide +kernel
theorem okTy_tuple : okTy "tuple" = true := by decide +kernel
theorem isTy_NoneType_tuple : isTy "NoneType" "tuple" = false := by decide +kernel
theorem isTy_bool_tuple : isTy "bool" "tuple" = false := by decide +kernel
theorem isTy_int_tuple : isTy "int" "tuple" = false := by decide +kernel
theorem isTy_str_tuple : isTy "str" "tuple" = false := by decide +kernel
theorem isTy_tuple_tuple : isTy "tuple" "tuple" = true := by decide +kernel
theorem isTy_list_tuple : isTy "list" "tuple" = false := by decide +kernel
theorem okTy_list : okTy "list" = true := by decide +kernel
theorem isTy_NoneType_list : isTy "NoneType" "list" = false := by decide +kernel
theorem isTy_bool_list : isTy "bool" "list" = false := by decide +kernel
theorem isTy_int_list : isTy "int" "list" = false := by decide +kernel
theorem isTy_str_list : isTy "str" "list" = false := by decide +kernel
theorem isTy_tuple_list : isTy "tuple" "list" = false := by decide +kernel
theorem isTy_list_list : isTy "list" "list" = true := by decide +kernel
theorem bind_some {α β : Type} {f : α → Option β} {a : α} : (some a).bind f = f a := rfl
theorem o_eqB {i j : Bool} : fEq (.bl i) (.bl j) = vB (i == j) := by
  unfold fEq
  rw [if_pos ⟨rfl, rfl⟩]
  rfl
theorem o_neB {i j : Bool} : fNe (.bl i) (.bl j) = vB (!(i == j)) := by
  unfold fNe
  rw [if_pos ⟨rfl, rfl⟩]
  rfl
theorem o_eqNN : fEq .non .non = vB true := rfl
theorem eqv_l0 (vs : List Val) : vEq (.lst vs) (.lst []) = vs.isEmpty := by
  cases vs <;> rfl
theorem o_eqL0 {vs : List Val} (h : dat 64 (.lst vs) = true) : fEq (.lst vs) (.lst []) = vB vs.isEmpty := by
  unfold fEq
  rw [if_pos ⟨h, rfl⟩, eqv_l0]
theorem o_neL0 {vs : List Val} (h : dat 64 (.lst vs) = true) : fNe (.lst vs) (.lst []) = vB (!vs.isEmpty) := by
  unfold fNe
  rw [if_pos ⟨h, rfl⟩, eqv_l0]
theorem dats_all {n : Nat} {vs : List Val} (h : ∀ v ∈ vs, dat n v = true) : dats n vs = true := by
  induction vs with
  | nil => unfold dats; rfl
  | cons v vs ih =>
    unfold dats
    rw [h v (.head _), ih fun u hu => h u (.tail _ hu)]
    rfl
theorem dat_lst {n : Nat} {vs : List Val} (h : ∀ v ∈ vs, dat n v = true) : dat (n + 1) (.lst vs) = true := by
  unfold dat
  exact dats_all h
theorem dat_tup {n : Nat} {vs : List Val} (h : ∀ v ∈ vs, dat n v = true) : dat (n + 1) (.tup vs) = true := by
  unfold dat
  exact dats_all h
theorem dat_int {n : Nat} {i : Int} : dat n (.int i) = true := by
  unfold dat
  rfl
theorem dat_ints {n : Nat} {l : List Int} : dat (n + 1) (.lst (l.map .int)) = true := dat_lst fun v hv => by
  obtain ⟨i, _, rfl⟩ := List.mem_map.mp hv
  exact dat_int
theorem wp_loopE {QF : Fl → MS → Prop} {st : MS} {body : M Fl} {γ : Type} {enc : γ → Val} {gt : T → M Unit} (I : Nat → List γ → MS → Prop) {i : Nat} {xs : List γ} (h0 : I i xs st)
    (hs : ∀ i x xs s, I i (x :: xs) s → wp (gt (.val (.tup [.int (i : Nat), enc x]))) (fun _ s1 => wp body (fun f s2 => wLp (I (i + 1) xs) QF f s2) s1) s) (he : ∀ i s, I i [] s → QF .nx s) : wp (loop gt body (enumF i (xs.map enc))) QF st := by
  induction xs generalizing st i with
  | nil => exact he _ _ h0
  | cons x xs ih =>
    show wp (loop gt body (.tup [.int (i : Nat), enc x] :: enumF (i + 1) (xs.map enc))) QF st
    rw [e_loop1]
    refine wp_imp (fun _ s h => wp_imp (fun f s2 h2 => ?_) h) (hs i x xs st h0)
    cases f <;> first | exact ih h2 | exact h2
theorem cst0 : ((0 : Nat) : Int) = 0 := rfl
theorem cst1 : ((1 : Nat) : Int) = 1 := rfl
theorem cst2 : ((2 : Nat) : Int) = 2 := rfl
theorem cst3 : ((3 : Nat) : Int) = 3 := rfl
theorem cst4 : ((4 : Nat) : Int) = 4 := rfl
theorem cst5 : ((5 : Nat) : Int) = 5 := rfl
theorem cst6 : ((6 : Nat) : Int) = 6 := rfl
theorem cst7 : ((7 : Nat) : Int) = 7 := rfl
theorem cst8 : ((8 : Nat) : Int) = 8 := rfl
theorem cst9 : ((9 : Nat) : Int) = 9 := rfl
theorem o_eq00 : fEq (.lst []) (.lst []) = vB true := rfl
theorem get_end {α : Type} {l : List α} {a : α} : (l ++ [a])[l.length]? = some a := by simp
theorem set_end {α : Type} {l : List α} {a b : α} : (l ++ [a]).set l.length b = l ++ [b] := by simp
theorem atN {α : Type} {l : List α} {i : Nat} (h : i < l.length) : atI l (i : Int) = some l[i] := atI_nat (List.getElem?_eq_getElem h)
def kk (l : List Nat) : List Key := l.map fun i : Nat => Sum.inl (i : Int)
def encN (l : List Nat) : List Val := l.map fun i : Nat => .int (i : Int)
theorem kk_inj {a b : List Nat} (h : kk a = kk b) : a = b := by
  induction a generalizing b with
  | nil => cases b with
    | nil => rfl
    | cons y b => cases h
  | cons x a ih => cases b with
    | nil => cases h
    | cons y b =>
      unfold kk at h
      rw [List.map_cons, List.map_cons] at h
      injection h with h1 h2
      injection h1 with h1
      rw [ih h2, Int.ofNat.inj h1]
theorem leafKs_encN (l : List Nat) : leafKs (encN l) = some (kk l) := by
  induction l with
  | nil => rfl
  | cons x l ih =>
    show (leafKs (encN l)).map (Sum.inl (x : Int) :: ·) = _
    rw [ih]
    rfl
theorem key_encN (l : List Nat) : keyOf (.tup (encN l)) = some (kk l) := leafKs_encN l
theorem leafKs_kVal (k : List Key) : leafKs (k.map kVal) = some k := by
  induction k with
  | nil => rfl
  | cons x k ih =>
    cases x with
    | inl i =>
      show (leafKs (k.map kVal)).map (Sum.inl i :: ·) = _
      rw [ih]
      rfl
    | inr i =>
      show (leafKs (k.map kVal)).map (Sum.inr i :: ·) = _
      rw [ih]
      rfl
theorem keyOf_kVal (k : List Key) : keyOf (.tup (k.map kVal)) = some k := leafKs_kVal k
theorem lookD_putD (kvs : List (Val × Val)) (k k' : List Key) (v : Val) : lookD (putD kvs k v) k' = if k = k' then some v else lookD kvs k' := by
  unfold putD
  split
  · rename_i h
    unfold lookD
    induction kvs with
    | nil => simp at h
    | cons p r ih =>
      rw [List.map_cons, List.find?_cons, List.find?_cons]
      by_cases hp : keyOf p.1 = some k
      · rw [if_pos hp]
        by_cases e : k = k'
        · subst e
          simp [hp]
        · have : ¬ keyOf p.1 = some k' := fun z => e (by rw [hp] at z; exact Option.some.inj z)
          simp only [this, decide_false, if_neg e]
          by_cases hr : (r.any fun p => decide (keyOf p.1 = some k)) = true
          · rw [ih hr, if_neg e]
          · have hm : r.map (fun p => if keyOf p.1 = some k then (p.1, v) else p) = r := by
              have : ∀ p ∈ r, (if keyOf p.1 = some k then (p.1, v) else p) = p := fun p hp => by
                rw [if_neg fun z => hr (List.any_eq_true.mpr ⟨p, hp, decide_eq_true z⟩)]
              conv => rhs; rw [← List.map_id r]
              exact List.map_congr_left this
            rw [hm]
      · have hr : (r.any fun p => decide (keyOf p.1 = some k)) = true := by
          rw [List.any_cons, decide_eq_false hp, Bool.false_or] at h
          exact h
        rw [if_neg hp]
        by_cases e : keyOf p.1 = some k'
        · have : ¬ k = k' := fun z => hp (z ▸ e)
          simp [e, this]
        · simp only [e, decide_false]
          exact ih hr
  · rename_i h
    unfold lookD
    rw [List.find?_append]
    by_cases e : k = k'
    · subst e
      have : kvs.find? (fun p => decide (keyOf p.1 = some k)) = none := by
        rw [List.find?_eq_none]
        intro p hp z
        exact h (List.any_eq_true.mpr ⟨p, hp, z⟩)
      rw [this, if_pos rfl]
      simp [List.find?_cons, keyOf_kVal]
    · rw [if_neg e]
      have : ([((Val.tup (k.map kVal)), v)] : List (Val × Val)).find? (fun p => decide (keyOf p.1 = some k')) = none := by
        simp [List.find?_cons, keyOf_kVal, e]
      rw [this]
      cases kvs.find? (fun p => decide (keyOf p.1 = some k')) <;> rfl
theorem putD_len (kvs : List (Val × Val)) (k : List Key) (v : Val) : (putD kvs k v).length ≤ kvs.length + 1 := by
  unfold putD
  split
  · rw [List.length_map]; omega
  · rw [List.length_append]; exact Nat.le_refl _
theorem o_notInN {i : Nat} {l : List Nat} : fNotIn (.int (i : Int)) (.tup (encN l)) = vB (!l.contains i) := by
  have h1 : (encN l).all flatS = true := by
    unfold encN
    rw [List.all_map]
    exact List.all_eq_true.mpr fun _ _ => rfl
  have h2 : inS (.int (i : Int)) (encN l) = l.contains i := by
    unfold inS encN
    induction l with
    | nil => rfl
    | cons x l ih =>
      rw [List.map_cons, List.any_cons, List.contains_cons, ih (by
        unfold encN at h1 ⊢
        rw [List.map_cons, List.all_cons, Bool.and_eq_true] at h1
        exact h1.2)]
      congr 1
      show ((x : Int) == (i : Int)) = (i == x)
      by_cases e : i = x
      · subst e; simp
      · have : ¬ (x : Int) = (i : Int) := fun z => e (Int.ofNat.inj z).symm
        rw [beq_eq_false_iff_ne.mpr this, beq_eq_false_iff_ne.mpr e]
  unfold fNotIn fInG
  dsimp only
  rw [if_pos ⟨rfl, h1⟩, h2]
  rfl
def isT (t : T) (v : Val) : Prop := t = .val v ∨ ∃ vs, t = .own vs ∧ v = .lst vs
theorem intR_map (n : Nat) : intR 0 n = (List.range n).map fun i : Nat => Val.int (i : Int) := by
  unfold intR
  congr 1
  funext i
  rw [Int.zero_add]
end Sm

namespace Sm
open PySem L2
section
variable {QT : T → MS → Prop} {QO : Option Int → MS → Prop} {st : MS} {m mo : M T} {ms : M (List T)} {ml mu : M (Option Int)}
theorem e_mt {Tn : String} {f : Val → List Val → Option T} : wp (mMt Tn f mo ms) QT st = wp mo (fun t s1 => wO (view t s1) fun u => tyS Tn u = true ∧ wp ms (fun ts s2 => wO (op2 f (view t s2) (views ts s2)) fun t => QT t s2) s1) st := by
  refine (wp_bind (m := mo)).trans (wp_congr fun t s1 => ?_)
  unfold wO
  cases hv : view t s1 with
  | none => unfold wp; simp only [hv]
  | some u =>
    dsimp only
    by_cases h : tyS Tn u = true
    · have e : wp (fun st1 => match view t s1 with
          | some u => if tyS Tn u = true then (ms st1).bind fun ts st2 => match view t st2 with
            | some v => vopN (f v) ts st2
            | none => .bad
            else .bad
          | none => .bad) QT s1 = wp (fun st1 => (ms st1).bind fun ts st2 => match view t st2 with
            | some v => vopN (f v) ts st2
            | none => .bad) QT s1 := by
        unfold wp
        simp only [hv, h, if_true]
      have e2 : ∀ s1' : MS, s1' = s1 → wp (fun st1 => match view t st1 with
          | some u => if tyS Tn u = true then (ms st1).bind fun ts st2 => match view t st2 with
            | some v => vopN (f v) ts st2
            | none => .bad
            else .bad
          | none => .bad) QT s1' = wp (fun st1 => (ms st1).bind fun ts st2 => match view t st2 with
            | some v => vopN (f v) ts st2
            | none => .bad) QT s1' := by
        rintro _ rfl
        unfold wp
        simp only [hv, h, if_true]
      refine (e2 s1 rfl).trans ((wp_bind (m := ms)).trans ?_)
      simp only [h, true_and]
      refine wp_congr fun ts s2 => ?_
      unfold op2
      cases hw : view t s2 with
      | none => unfold wp; simp only [hw]
      | some v =>
        have : wp (fun st2 => match view t st2 with
            | some v => vopN (f v) ts st2
            | none => .bad) QT s2 = wp (vopN (f v) ts) QT s2 := by
          unfold wp
          simp only [hw]
        refine this.trans (wp_vopN.trans ?_)
        unfold op1 wO
        cases views ts s2 <;> rfl
    · unfold wp
      simp only [hv, h, if_false, false_and]
      simp
theorem e_o0 : wp mO0 QO st = QO none st := rfl
theorem e_o1 : wp (mO1 m) QO st = wp m (fun t s => wI (view t s) fun i => QO (some i) s) st :=
  (wp_bind (m := m)).trans (wp_congr fun t s => (wp_bind (m := fun s' => asI (view t s) s')).trans wp_asI)
theorem e_sl {f : Val → Option Int → Option Int → Option T} : wp (mSl f m ml mu) QT st = wp m (fun t s1 => wp ml (fun l s2 => wp mu (fun u s3 => wO (op1 (fun v => f v l u) (view t s3)) fun t => QT t s3) s2) s1) st := by
  refine (wp_bind (m := m)).trans (wp_congr fun t s => (wp_bind (m := ml)).trans (wp_congr fun l s => (wp_bind (m := mu)).trans (wp_congr fun u s => ?_)))
  unfold op1
  cases hv : view t s with
  | none => unfold wp wO; simp only [hv]
  | some v =>
    have : wp (fun st3 => match view t st3 with
      | some v => outT (f v l u) st3
      | none => .bad) QT s = wp (fun s => outT (f v l u) s) QT s := by
      unfold wp
      simp only [hv]
    exact this.trans wp_outT
end
end Sm

namespace Sm
open PySem L2 Lk
/-! rules for instances, walks over lists of the heap, sorts -/
def wIns (st : MS) (t : T) (Q : Nat → Str → List (Str × Val) → Prop) (_ : Tag0 Q := ⟨⟩) : Prop := match insAt t st with
  | some (n, C, fs) => Q n C fs
  | none => False
theorem wIns_ref {st : MS} {n : Nat} {Q : Nat → Str → List (Str × Val) → Prop} : wIns st (.val (.ref n)) Q = (match st.hp[n]? with
  | some (.ins C fs) => Q n C fs
  | _ => False) := by
  unfold wIns insAt
  dsimp only
  cases st.hp[n]? with
  | none => rfl
  | some x => cases x <;> rfl
theorem wIns_congr {st : MS} {t : T} {Q Q' : Nat → Str → List (Str × Val) → Prop} (h : ∀ n C fs, Q n C fs = Q' n C fs) : wIns st t Q = wIns st t Q' := by
  have : Q = Q' := by funext n C fs; exact h n C fs
  rw [this]
section
variable {α β : Type} {Q : α → MS → Prop} {QF : Fl → MS → Prop} {QT : T → MS → Prop} {QB : Bool → MS → Prop} {QU : Unit → MS → Prop} {st : MS} {i j : Nat} {n : Nat} {m ma mb mc mo mv : M T} {body : M Fl} {ms : M (List T)} {QL : List Val → MS → Prop} {C f : Str} {mf : MF} {k : Nat}
theorem e_fld : wp (mFld C f m) QT st = wp m (fun t s => wIns s t fun n D fs => D = C ∧ wO (fs.lookup f) fun v => QT (.val v) s) st := by
  refine (wp_bind (m := m)).trans (wp_congr fun t s => ?_)
  unfold wp wIns
  dsimp only
  cases insAt t s with
  | none => rfl
  | some p =>
    obtain ⟨n, D, fs⟩ := p
    dsimp only
    by_cases h : D = C
    · rw [if_pos h]
      simp only [h, true_and]
      cases fs.lookup f <;> rfl
    · rw [if_neg h]; simp only [h, false_and]
theorem e_puti {t : T} {v : Val} : wp (putI C f t v) QU st = wIns st t fun n D fs => (D = C ∧ fs.length < 1000) ∧ QU () { st with hp := st.hp.set n (.ins D (putA f v fs)) } := by
  unfold wp putI wIns
  cases insAt t st with
  | none => rfl
  | some p =>
    obtain ⟨n, D, fs⟩ := p
    dsimp only
    by_cases h : D = C ∧ fs.length < 1000
    · rw [if_pos h]; simp only [h, and_self, true_and]
    · rw [if_neg h]; simp only [h, false_and]
theorem e_fldset : wp (mFldSet C f mo mv) QF st = wp mv (fun t s1 => wp (mTake t) (fun v s2 => wp mo (fun o s3 => wIns s3 o fun n D fs => (D = C ∧ fs.length < 1000) ∧ QF .nx { s3 with hp := s3.hp.set n (.ins D (putA f v fs)) }) s2) s1) st :=
  (wp_bind (m := mv)).trans (wp_congr fun t s => (wp_bind (m := mTake t)).trans (wp_congr fun v s => (wp_bind (m := mo)).trans (wp_congr fun o s => (e_okU (u := putI C f o v)).trans e_puti)))
theorem e_gfld {t : T} : wp (mGFld C f mo t) QU st = wp (mTake t) (fun v s2 => wp mo (fun o s3 => wIns s3 o fun n D fs => (D = C ∧ fs.length < 1000) ∧ QU () { s3 with hp := s3.hp.set n (.ins D (putA f v fs)) }) s2) st :=
  (wp_bind (m := mTake t)).trans (wp_congr fun v s => (wp_bind (m := mo)).trans (wp_congr fun o s => e_puti))
theorem e_fldaug {fop : Val → Val → Option T} : wp (mFldAug C f fop mo mv) QF st = wp mo (fun o s1 => wIns s1 o fun n D fs => D = C ∧ wO (fs.lookup f) fun x => wp mv (fun t s2 => wO (op2 fop (view (.val x) s2) (view t s2)) fun z => wp (mTake z) (fun v s4 => wIns s4 o fun n D fs => (D = C ∧ fs.length < 1000) ∧ QF .nx { s4 with hp := s4.hp.set n (.ins D (putA f v fs)) }) s2) s1) st := by
  refine (wp_bind (m := mo)).trans (wp_congr fun o s => ?_)
  have key : ∀ x, wp (fun s1 => (mv s1).bind fun t st2 => (vop2 fop (.val x) t st2).bind fun z st3 => (mTake z st3).bind fun v st4 => okU (putI C f o v st4)) QF s = wp mv (fun t s2 => wO (op2 fop (view (.val x) s2) (view t s2)) fun z => wp (mTake z) (fun v s4 => wIns s4 o fun n D fs => (D = C ∧ fs.length < 1000) ∧ QF .nx { s4 with hp := s4.hp.set n (.ins D (putA f v fs)) }) s2) s := fun x =>
    (wp_bind (m := mv)).trans (wp_congr fun t s => (wp_bind (m := vop2 fop (.val x) t)).trans (wp_vop2.trans (wO_congr fun z => (wp_bind (m := mTake z)).trans (wp_congr fun v s => (e_okU (u := putI C f o v)).trans e_puti))))
  unfold wIns
  unfold wp
  dsimp only
  cases insAt o s with
  | none => rfl
  | some p =>
    obtain ⟨n, D, fs⟩ := p
    dsimp only
    by_cases h : D = C
    · rw [if_pos h]
      simp only [h, true_and]
      cases fs.lookup f with
      | none => rfl
      | some x => exact key x
    · rw [if_neg h]; simp only [h, false_and]
theorem e_meth : wp (mMeth C f k mf mo ms) QT st = wp mo (fun o s1 => wIns s1 o fun n D fs => (D = C ∧ fs.lookup f = none) ∧ wp ms (fun ts s2 => wp (mTakes (o :: ts)) (fun vs s3 => vs.length = k ∧ wpc mf vs s3.hp fun t hp => QT t ⟨hp, s3.sl⟩) s2) s1) st := by
  refine (wp_bind (m := mo)).trans (wp_congr fun o s => ?_)
  have key : wp (fun s1 => (ms s1).bind fun ts st2 => (mTakes (o :: ts) st2).bind fun vs st3 => if vs.length = k then back st3 (mf vs st3.hp) else .bad) QT s = wp ms (fun ts s2 => wp (mTakes (o :: ts)) (fun vs s3 => vs.length = k ∧ wpc mf vs s3.hp fun t hp => QT t ⟨hp, s3.sl⟩) s2) s := by
    refine (wp_bind (m := ms)).trans (wp_congr fun ts s => (wp_bind (m := mTakes (o :: ts))).trans (wp_congr fun vs s => ?_))
    unfold wp wpc
    dsimp only
    by_cases h : vs.length = k
    · rw [if_pos h]
      simp only [h, true_and]
      cases mf vs s.hp <;> rfl
    · rw [if_neg h]
      simp [h]
  unfold wIns
  rw [← key]
  unfold wp
  dsimp only
  cases insAt o s with
  | none => rfl
  | some p =>
    obtain ⟨n, D, fs⟩ := p
    dsimp only
    by_cases h : D = C ∧ fs.lookup f = none
    · rw [if_pos h]; simp only [h, and_self, true_and]
    · rw [if_neg h]; simp only [h, false_and]
theorem e_make : wp (mMake C k mf ms) QT st = wp ms (fun ts s1 => wp (mTakes ts) (fun vs s2 => vs.length + 1 = k ∧ wpc mf (.ref s2.hp.length :: vs) (s2.hp ++ [.ins C []]) fun t hp => t = .val .non ∧ QT (.val (.ref s2.hp.length)) ⟨hp, s2.sl⟩) s1) st := by
  refine (wp_bind (m := ms)).trans (wp_congr fun ts s => (wp_bind (m := mTakes ts)).trans (wp_congr fun vs s => ?_))
  unfold wp wpc
  dsimp only
  by_cases h : vs.length + 1 = k
  · rw [if_pos h]
    simp only [h, true_and]
    cases mf (.ref s.hp.length :: vs) (s.hp ++ [.ins C []]) with
    | ok t s' =>
      cases t with
      | val v => cases v <;> simp [back, made]
      | _ => simp [back, made]
    | exc _ _ => rfl
    | bad => rfl
  · rw [if_neg h]
    simp [h]
theorem e_augsub {fop : Val → Val → Option T} : wp (mAugSub fop mo ma mv) QF st = wp mo (fun o s1 => wp ma (fun i s2 => wI (view i s2) fun k => match view o s2 with
    | some (.lst vs) => wO (L2.atI vs k) fun x => wp mv (fun t s4 => wO (op2 fop (view (.val x) s4) (view t s4)) fun z => wp (mTake z) (fun v s6 => wp (putL o k v) (fun _ s => QF .nx s) s6) s4) s2
    | _ => False) s1) st := by
  refine (wp_bind (m := mo)).trans (wp_congr fun o s => (wp_bind (m := ma)).trans (wp_congr fun i s2 => (wp_bind (m := fun s' => asI (view i s2) s')).trans (wp_asI.trans (wI_congr fun k => ?_))))
  have key : ∀ x, wp (fun st3 => (mv st3).bind fun t st4 => (vop2 fop (.val x) t st4).bind fun z st5 => (mTake z st5).bind fun v st6 => okU (putL o k v st6)) QF s2 = wp mv (fun t s4 => wO (op2 fop (view (.val x) s4) (view t s4)) fun z => wp (mTake z) (fun v s6 => wp (putL o k v) (fun _ s => QF .nx s) s6) s4) s2 := fun x =>
    (wp_bind (m := mv)).trans (wp_congr fun t s => (wp_bind (m := vop2 fop (.val x) t)).trans (wp_vop2.trans (wO_congr fun z => (wp_bind (m := mTake z)).trans (wp_congr fun v s => e_okU (u := putL o k v)))))
  unfold wp
  dsimp only
  cases view o s2 with
  | none => rfl
  | some v =>
    cases v with
    | lst vs =>
      dsimp only
      cases L2.atI vs k with
      | none => rfl
      | some x => exact key x
    | _ => rfl
theorem e_forL {mi : M LSrc} {gt : T → M Unit} : wp (mForL mi gt body) QF st = wp mi (fun xs s => wp (loopL xs gt body xs.n 0) QF s) st := wp_bind (m := mi)
def wPlc (st : MS) (t : T) (Q : Nat → List Val → Prop) (_ : Tag0 Q := ⟨⟩) : Prop := match plc t st with
  | some (n, vs) => Q n vs
  | none => False
theorem wPlc_ref {n : Nat} {Q : Nat → List Val → Prop} : wPlc st (.val (.ref n)) Q = (match st.hp[n]? with
  | some (.lst vs) => Q n vs
  | _ => False) := by
  unfold wPlc plc
  dsimp only
  cases st.hp[n]? with
  | none => rfl
  | some x => cases x <;> rfl
def lsI (n : Nat) (vs : List Val) : LSrc := ⟨vs.length, liveL n, liveS n⟩
def lsE (n : Nat) (vs : List Val) : LSrc := ⟨vs.length, fun hp i => (liveL n hp i).map fun v => .tup [.int (i : Nat), v], liveS n⟩
def lsZ (n m : Nat) (vs us : List Val) : LSrc := ⟨min vs.length us.length, fun hp i => match liveL n hp i, liveL m hp i with
    | some x, some y => some (.tup [x, y])
    | _, _ => none, fun hp i => (liveS n hp i && isLst hp m) || (liveS m hp i && isLst hp n)⟩
theorem e_itemsL {QS : LSrc → MS → Prop} : wp (mItemsL m) QS st = wp m (fun t s => wPlc s t fun n vs => QS (lsI n vs) s) st := by
  refine (wp_bind (m := m)).trans (wp_congr fun t s => ?_)
  unfold wp wPlc lsI; dsimp only
  cases plc t s <;> rfl
theorem e_enumL {QS : LSrc → MS → Prop} : wp (mEnumL m) QS st = wp m (fun t s => wPlc s t fun n vs => QS (lsE n vs) s) st := by
  refine (wp_bind (m := m)).trans (wp_congr fun t s => ?_)
  unfold wp wPlc lsE; dsimp only
  cases plc t s <;> rfl
theorem e_zipL {QS : LSrc → MS → Prop} : wp (mZipL ma mb) QS st = wp ma (fun t s1 => wp mb (fun t' s => wPlc s t fun n vs => wPlc s t' fun m us => QS (lsZ n m vs us) s) s1) st := by
  refine (wp_bind (m := ma)).trans (wp_congr fun t s1 => (wp_bind (m := mb)).trans (wp_congr fun t' s => ?_))
  unfold wp wPlc lsZ; dsimp only
  cases plc t s with
  | none => rfl
  | some p =>
    dsimp only
    cases plc t' s <;> rfl
theorem e_compL {vs : List Nat} {mi : M LSrc} {gt : T → M Unit} {ct : M Bool} {el : M T} : wp (mCompL vs mi gt ct el) QT st = wp mi (fun xs s1 => xs.n ≤ 16777216 ∧ wp (cloopL xs vs gt ct el xs.n 0) (fun ys s2 => QT (.own ys) { s2 with sl := unwipe s1.sl s2.sl vs }) s1) st := by
  refine (wp_bind (m := mi)).trans (wp_congr fun xs s => ?_)
  unfold wp
  by_cases h : xs.n ≤ 16777216
  · dsimp only; rw [if_pos h]
    simp only [h, true_and]
    cases cloopL xs vs gt ct el xs.n 0 s <;> rfl
  · dsimp only; rw [if_neg h]
    simp only [h, false_and]
/-- a walk over a source whose items are told: items i, as long as G -/
theorem wp_loopL {γ : Type} {enc : γ → Val} {s0 : LSrc} {gt : T → M Unit} (G : List Ob → Prop) (xs : List γ) (hg : ∀ hp, G hp → (∀ i x, xs[i]? = some x → s0.get hp i = some (enc x)) ∧ s0.stop hp xs.length = true)
    (I : Nat → List γ → MS → Prop) (hn : s0.n = xs.length) (h0 : I 0 xs st) (hG : ∀ i l s, I i l s → G s.hp)
    (hs : ∀ i x l s, I i (x :: l) s → wp (gt (.val (enc x))) (fun _ s1 => wp body (fun f s2 => wLp (I (i + 1) l) QF f s2) s1) s) (he : ∀ i s, I i [] s → QF .nx s) : wp (loopL s0 gt body s0.n 0) QF st := by
  rw [hn]
  suffices H : ∀ (l : List γ) (i : Nat) (st : MS), i + l.length = xs.length → (∀ j, l[j]? = xs[i + j]?) → I i l st → wp (loopL s0 gt body l.length i) QF st from H xs 0 st (Nat.zero_add _) (fun j => by rw [Nat.zero_add]) h0
  intro l
  induction l with
  | nil =>
    intro i st hl _ h
    have hi : i = xs.length := by simpa using hl
    have := (hg _ (hG _ _ _ h)).2
    unfold wp
    rw [show loopL s0 gt body ([] : List γ).length i st = .ok .nx st from by
      show (if s0.stop st.hp i = true then _ else _) = _
      rw [hi, if_pos this]]
    exact he _ _ h
  | cons x l ih =>
    intro i st hl hx h
    have h1 := (hg _ (hG _ _ _ h)).1 i x (by rw [← Nat.add_zero i, ← hx 0]; rfl)
    have e : wp (loopL s0 gt body (l.length + 1) i) QF st = wp (gt (.val (enc x))) (fun _ s => wp body (fun f s2 => wLp (fun s => wp (loopL s0 gt body l.length (i + 1)) QF s) QF f s2) s) st := by
      have e1 : wp (loopL s0 gt body (l.length + 1) i) QF st = wp (fun st => (gt (.val (enc x)) st).bind fun _ st1 => (body st1).bind fun f st2 => match f with
        | .nx => loopL s0 gt body l.length (i + 1) st2
        | .cnt => loopL s0 gt body l.length (i + 1) st2
        | .brk => .ok .nx st2
        | .ret t => .ok (.ret t) st2) QF st := by
        unfold wp
        rw [loopL]
        simp only [h1] <;> rfl
      rw [e1]
      exact (wp_bind (m := gt (.val (enc x)))).trans (wp_congr fun _ s => (wp_bind (m := body)).trans (wp_congr fun f s => by cases f <;> rfl))
    show wp (loopL s0 gt body (l.length + 1) i) QF st
    rw [e]
    refine wp_imp (fun _ s h => wp_imp (fun f s2 h2 => ?_) h) (hs i x l st h)
    have hl' : i + 1 + l.length = xs.length := by simp only [List.length_cons] at hl; omega
    have hx' : ∀ j, l[j]? = xs[i + 1 + j]? := fun j => by
      have := hx (j + 1)
      rw [List.getElem?_cons_succ] at this
      rw [this]; congr 1; omega
    cases f with
    | nx => exact ih _ _ hl' hx' h2
    | cnt => exact ih _ _ hl' hx' h2
    | brk => exact h2
    | ret t => exact h2
theorem wp_cloopL {γ : Type} {enc : γ → Val} {s0 : LSrc} {vs : List Nat} {gt : T → M Unit} {ct : M Bool} {el : M T} (G : List Ob → Prop) (xs : List γ) (hg : ∀ hp, G hp → (∀ i x, xs[i]? = some x → s0.get hp i = some (enc x)) ∧ s0.stop hp xs.length = true)
    (I : List γ → List Val → MS → Prop) (hn : s0.n = xs.length) (h0 : I xs [] st) (hG : ∀ l ys s, I l ys s → G s.hp)
    (hs : ∀ x l ys s, I (x :: l) ys s → wp (gt (.val (enc x))) (fun _ s1 => wp ct (fun b s2 => wIf b (wp el (fun t s3 => wp (mTake t) (fun v s4 => I l (ys ++ [v]) s4) s3) s2) (I l ys s2)) s1) { s with sl := wipeS s.sl vs })
    (he : ∀ ys s, I [] ys s → QL ys s) : wp (cloopL s0 vs gt ct el s0.n 0) QL st := by
  rw [hn]
  suffices H : ∀ (l : List γ) (i : Nat) (st : MS) (ys : List Val), i + l.length = xs.length → (∀ j, l[j]? = xs[i + j]?) → I l ys st → wp (cloopL s0 vs gt ct el l.length i) (fun zs s => QL (ys ++ zs) s) st from by
    have := H xs 0 st [] (Nat.zero_add _) (fun j => by rw [Nat.zero_add]) h0
    exact this
  intro l
  induction l with
  | nil =>
    intro i st ys hl _ h
    have hi : i = xs.length := by simpa using hl
    have := (hg _ (hG _ _ _ h)).2
    unfold wp
    rw [show cloopL s0 vs gt ct el ([] : List γ).length i st = .ok [] st from by
      show (if s0.stop st.hp i = true then _ else _) = _
      rw [hi, if_pos this]]
    show QL (ys ++ []) st
    rw [List.append_nil]
    exact he _ _ h
  | cons x l ih =>
    intro i st ys hl hx h
    have h1 := (hg _ (hG _ _ _ h)).1 i x (by rw [← Nat.add_zero i, ← hx 0]; rfl)
    have e : wp (cloopL s0 vs gt ct el (l.length + 1) i) (fun zs s => QL (ys ++ zs) s) st = wp (gt (.val (enc x))) (fun _ s1 => wp ct (fun b s2 => if b = true then wp el (fun t s3 => wp (mTake t) (fun v s4 => wp (cloopL s0 vs gt ct el l.length (i + 1)) (fun zs s => QL (ys ++ v :: zs) s) s4) s3) s2
        else wp (cloopL s0 vs gt ct el l.length (i + 1)) (fun zs s => QL (ys ++ zs) s) s2) s1) { st with sl := wipeS st.sl vs } := by
      have e1 : wp (cloopL s0 vs gt ct el (l.length + 1) i) (fun zs s => QL (ys ++ zs) s) st = wp (fun st => (gt (.val (enc x)) st).bind fun _ st1 => (ct st1).bind fun b st2 => if b = true then (el st2).bind fun t st3 => (mTake t st3).bind fun v st4 => (cloopL s0 vs gt ct el l.length (i + 1) st4).bind fun ys st5 => .ok (v :: ys) st5 else cloopL s0 vs gt ct el l.length (i + 1) st2) (fun zs s => QL (ys ++ zs) s) { st with sl := wipeS st.sl vs } := by
        unfold wp
        rw [cloopL]
        simp only [h1]
      rw [e1]
      refine (wp_bind (m := gt (.val (enc x)))).trans (wp_congr fun _ s => (wp_bind (m := ct)).trans (wp_congr fun b s => ?_))
      cases b
      · rfl
      · exact (wp_bind (m := el)).trans (wp_congr fun t s => (wp_bind (m := mTake t)).trans (wp_congr fun v s => wp_bind (m := cloopL s0 vs gt ct el l.length (i + 1))))
    show wp (cloopL s0 vs gt ct el (l.length + 1) i) _ st
    rw [e]
    have hl' : i + 1 + l.length = xs.length := by simp only [List.length_cons] at hl; omega
    have hx' : ∀ j, l[j]? = xs[i + 1 + j]? := fun j => by
      have := hx (j + 1)
      rw [List.getElem?_cons_succ] at this
      rw [this]; congr 1; omega
    refine wp_imp (fun _ s h => wp_imp (fun b s2 h2 => ?_) h) (hs x l ys st h)
    unfold wIf at h2
    by_cases hb : b = true
    · rw [if_pos hb] at h2 ⊢
      refine wp_imp (fun t s3 h => wp_imp (fun v s4 h4 => ?_) h) h2
      have := ih _ _ _ hl' hx' h4
      refine wp_imp (fun zs s5 h => ?_) this
      rw [List.append_assoc] at h
      exact h
    · rw [if_neg hb] at h2 ⊢
      exact ih _ _ _ hl' hx' h2
/-- .. each item its value -/
theorem wp_cmapL {γ : Type} {enc : γ → Val} {s0 : LSrc} {vs : List Nat} {gt : T → M Unit} {ct : M Bool} {el : M T} (G : List Ob → Prop) (xs : List γ) (hg : ∀ hp, G hp → (∀ i x, xs[i]? = some x → s0.get hp i = some (enc x)) ∧ s0.stop hp xs.length = true)
    (hn : s0.n = xs.length) (p : γ → Bool) (f : γ → Val) (S : MS → Prop) (h0 : S st) (hG : ∀ s, S s → G s.hp)
    (hs : ∀ x ∈ xs, ∀ s, S s → wp (gt (.val (enc x))) (fun _ s1 => wp ct (fun b s2 => wIf b (p x = true ∧ wp el (fun t s3 => wp (mTake t) (fun v s4 => v = f x ∧ S s4) s3) s2) (p x = false ∧ S s2)) s1) { s with sl := wipeS s.sl vs })
    (he : ∀ s, S s → QL ((xs.filter p).map f) s) : wp (cloopL s0 vs gt ct el s0.n 0) QL st := by
  refine wp_cloopL G xs hg (fun l ys s => S s ∧ ∃ pre, pre ++ l = xs ∧ ys = (pre.filter p).map f) hn ⟨h0, [], rfl, rfl⟩ (fun l ys s h => hG s h.1) (fun x l ys s h => ?_) (fun ys s h => ?_)
  · obtain ⟨h, pre, e, rfl⟩ := h
    have hx : x ∈ xs := e ▸ List.mem_append_right _ (.head _)
    have e1 : (pre ++ [x]) ++ l = xs := by rw [List.append_assoc]; exact e
    refine wp_imp (fun _ s1 h => wp_imp (fun b s2 h => ?_) h) (hs x hx s h)
    cases b
    · obtain ⟨hp, h⟩ := h
      exact ⟨h, pre ++ [x], e1, by rw [List.filter_append, List.map_append]; simp [hp]⟩
    · obtain ⟨hp, h⟩ := h
      exact wp_imp (fun t s3 h => wp_imp (fun v s4 h => ⟨h.2, pre ++ [x], e1, by rw [List.filter_append, List.map_append, h.1]; simp [hp]⟩) h) h
  · obtain ⟨h, pre, e, rfl⟩ := h
    rw [List.append_nil] at e
    subst e
    exact he _ h
def wSrt (kf : Int → List Int → List Int) (n : Nat) (QT : T → MS → Prop) (s : MS) (z : Option Int) (v : Option Val) (_ : Tag0 QT := ⟨⟩) : Prop := match z, v with
  | some z, some (.lst vs) => vs.all (tupN n) = true ∧ QT (.own (vs.mergeSort (leK (kf z)))) s
  | _, _ => False
theorem e_sortLam {kf : Int → List Int → List Int} {n : Nat} {pre : MS → Option Int} : wp (mSortLam kf n pre m) QT st = wp m (fun t s => wSrt kf n QT s (pre s) (view t s)) st := by
  refine (wp_bind (m := m)).trans (wp_congr fun t s => ?_)
  unfold wp wSrt
  dsimp only
  cases pre s with
  | none => rfl
  | some z =>
    cases view t s with
    | none => rfl
    | some v =>
      cases v with
      | lst vs =>
        dsimp only
        by_cases h : vs.all (tupN n) = true
        · rw [if_pos h]; simp only [h, true_and]
        · rw [if_neg h]; simp [h]
      | _ => rfl
theorem pre_no_some : preNo st = some 0 := rfl
theorem e_rng2 : wp (mRng2 ma mb) QL st = wp ma (fun t s1 => wp mb (fun u s => wI (view t s) fun i => wI (view u s) fun j => ((-(2 ^ 62) ≤ i ∧ i < 2 ^ 62) ∧ (-(2 ^ 62) ≤ j ∧ j < 2 ^ 62)) ∧ QL (intR i (j - i).toNat) s) s1) st := by
  refine (wp_bind (m := ma)).trans (wp_congr fun t s1 => (wp_bind (m := mb)).trans (wp_congr fun u s => (wp_bind (m := fun s' => asI (view t s) s')).trans (wp_asI.trans (wI_congr fun i => (wp_bind (m := fun s' => asI (view u s) s')).trans (wp_asI.trans (wI_congr fun j => ?_))))))
  unfold wp
  by_cases h : (-(2 ^ 62) ≤ i ∧ i < 2 ^ 62) ∧ (-(2 ^ 62) ≤ j ∧ j < 2 ^ 62)
  · dsimp only; rw [if_pos h]; simp only [h, and_self, true_and]
  · dsimp only; rw [if_neg h]; simp only [h, false_and]
end
theorem o_intB {b : Bool} : fIntB [.bl b] = vI (if b = true then 1 else 0) := rfl
theorem o_intI {i : Int} : fIntB [.int i] = vI i := rfl
/-! attributes -/
theorem lk_eq {f : Str} {v : Val} {l : List (Str × Val)} : List.lookup f ((f, v) :: l) = some v := by rw [List.lookup_cons, beq_self_eq_true]
theorem lk_ne {f k : Str} {v : Val} {l : List (Str × Val)} (h : (f == k) = false) : List.lookup f ((k, v) :: l) = List.lookup f l := by rw [List.lookup_cons, h]
theorem pa_nil {f : Str} {v : Val} : putA f v [] = [(f, v)] := rfl
theorem pa_eq {f : Str} {v x : Val} {l : List (Str × Val)} : putA f v ((f, x) :: l) = (f, v) :: l := by unfold putA; rw [if_pos rfl]
theorem pa_ne {f k : Str} {v x : Val} {l : List (Str × Val)} (h : (f == k) = false) : putA f v ((k, x) :: l) = (k, x) :: putA f v l := by
  rw [putA, if_neg (fun e => by rw [e, beq_self_eq_true] at h; cases h)]
/-! the heap's end -/
theorem get_pre {α : Type} {pre l : List α} {k : Nat} : (pre ++ l)[pre.length + k]? = l[k]? := by rw [List.getElem?_append_right (Nat.le_add_right ..), Nat.add_sub_cancel_left]
theorem get_pre0 {α : Type} {pre l : List α} : (pre ++ l)[pre.length]? = l[0]? := get_pre (k := 0)
theorem set_pre {α : Type} {pre l : List α} {k : Nat} {x : α} : (pre ++ l).set (pre.length + k) x = pre ++ l.set k x := by rw [List.set_append_right _ _ (Nat.le_add_right ..), Nat.add_sub_cancel_left]
theorem set_pre0 {α : Type} {pre l : List α} {x : α} : (pre ++ l).set pre.length x = pre ++ l.set 0 x := set_pre (k := 0)
end Sm

namespace Sm
open PySem L2
def wDk (st : MS) (t : T) (Q : Nat → List (Key × Val) → Prop) (_ : Tag0 Q := ⟨⟩) : Prop := match dkAt t st with
  | some (n, kvs) => Q n kvs
  | none => False
theorem wDk_ref {st : MS} {n : Nat} {Q : Nat → List (Key × Val) → Prop} : wDk st (.val (.ref n)) Q = (match st.hp[n]? with
  | some (.dk kvs) => Q n kvs
  | _ => False) := by
  unfold wDk dkAt
  dsimp only
  cases st.hp[n]? with
  | none => rfl
  | some x => cases x <;> rfl
section
variable {QF : Fl → MS → Prop} {QT : T → MS → Prop} {st : MS} {ma mb mc : M T}
theorem e_knew : wp mKNew QT st = QT (.val (.ref st.hp.length)) { st with hp := st.hp ++ [.dk []] } := rfl
theorem e_kin {neg : Bool} : wp (mKIn neg ma mb) QT st = wp ma (fun i s1 => wp mb (fun o s2 => wDk s2 o fun n kvs => wO ((view i s2).bind keyK) fun k => QT (.val (.bl (if neg then !(lookK kvs k).isSome else (lookK kvs k).isSome))) s2) s1) st := by
  refine (wp_bind (m := ma)).trans (wp_congr fun t s => (wp_bind (m := mb)).trans (wp_congr fun i s2 => ?_))
  unfold wp kHasT wDk wO
  dsimp only
  cases dkAt i s2 with
  | none => rfl
  | some p =>
    dsimp only
    cases (view t s2).bind keyK <;> rfl
theorem e_kget : wp (mKGet ma mb) QT st = wp ma (fun o s1 => wp mb (fun i s2 => wDk s2 o fun n kvs => wO ((view i s2).bind keyK) fun k => wO (lookK kvs k) fun v => QT (.val v) s2) s1) st := by
  refine (wp_bind (m := ma)).trans (wp_congr fun t s => (wp_bind (m := mb)).trans (wp_congr fun i s2 => ?_))
  unfold wp kGetT wDk wO
  dsimp only
  cases dkAt t s2 with
  | none => rfl
  | some p =>
    dsimp only
    cases (view i s2).bind keyK with
    | none => rfl
    | some k =>
      dsimp only
      cases lookK p.2 k <;> rfl
theorem e_kput : wp (mKPut mc ma mb) QF st = wp mc (fun t s1 => wp (mTake t) (fun v s1' => wp ma (fun o s2 => wp mb (fun i s3 => wDk s3 o fun n kvs => wO ((view i s3).bind keyK) fun k => kvs.length < 16777216 ∧ QF .nx { s3 with hp := s3.hp.set n (.dk (putKk kvs k v)) }) s2) s1') s1) st := by
  refine (wp_bind (m := mc)).trans (wp_congr fun t s => (wp_bind (m := mTake t)).trans (wp_congr fun v s1 => (wp_bind (m := ma)).trans (wp_congr fun o s2 => (wp_bind (m := mb)).trans (wp_congr fun i s3 => ?_))))
  unfold wp kPutT wDk wO
  dsimp only
  cases dkAt o s3 with
  | none => rfl
  | some p =>
    dsimp only
    cases (view i s3).bind keyK with
    | none => rfl
    | some k =>
      dsimp only
      by_cases h : p.2.length < 16777216
      · rw [if_pos h]; simp only [h, true_and]
      · rw [if_neg h]; simp only [h, false_and]
end
theorem lookK_nil {k : Key} : lookK [] k = none := rfl
theorem keyK_int {i : Int} : keyK (.int i) = some (.inl i) := rfl
theorem keyK_str {i : Str} : keyK (.str i) = some (.inr i) := rfl
end Sm

namespace Sm
open PySem L2
section
variable {QA : List T → MS → Prop} {QT : T → MS → Prop} {st : MS} {m mo : M T} {ps : List (Str × M T)}
theorem e_pairs0 : wp (mPairs []) QA st = QA [] st := rfl
theorem e_pairs1 {s : Str} : wp (mPairs ((s, m) :: ps)) QA st = wp m (fun t s => wp (mPairs ps) (fun ts s2 => QA (t :: ts) s2) s) st := by
  have : mPairs ((s, m) :: ps) = fun st => (m st).bind fun t st1 => (mPairs ps st1).bind fun ts st2 => .ok (t :: ts) st2 := by funext st; rw [mPairs]
  rw [this]
  exact (wp_bind (m := m)).trans (wp_congr fun t s => wp_bind (m := mPairs ps))
theorem e_kdisp : wp (mKDisp ps) QT st = wp (mPairs ps) (fun ts s => wp (mTakes ts) (fun vs s2 => vs.length = ps.length ∧ QT (.val (.ref s2.hp.length)) { s2 with hp := s2.hp ++ [.dk (mergeKk [] ((ps.map fun p => Sum.inr p.1).zip vs))] }) s) st := by
  refine (wp_bind (m := mPairs ps)).trans (wp_congr fun ts s => (wp_bind (m := mTakes ts)).trans (wp_congr fun vs s => ?_))
  unfold wp
  by_cases h : vs.length = ps.length
  · dsimp only; rw [if_pos h]; simp only [h, true_and]
  · dsimp only; rw [if_neg h]; simp only [h, false_and]
theorem e_kupd : wp (mKUpd mo m) QT st = wp mo (fun o s1 => wDk s1 o fun _ _ => wp m (fun t s2 => wDk s2 o fun n kvs => wDk s2 t fun k more => (n ≠ k ∧ kvs.length + more.length ≤ 16777216) ∧ QT (.val .non) { s2 with hp := s2.hp.set n (.dk (mergeKk kvs more)) }) s1) st := by
  refine (wp_bind (m := mo)).trans (wp_congr fun o s => ?_)
  have key : wp (fun s1 => (m s1).bind fun t st2 => kUpdT o t st2) QT s = wp m (fun t s2 => wDk s2 o fun n kvs => wDk s2 t fun k more => (n ≠ k ∧ kvs.length + more.length ≤ 16777216) ∧ QT (.val .non) { s2 with hp := s2.hp.set n (.dk (mergeKk kvs more)) }) s := by
    refine (wp_bind (m := m)).trans (wp_congr fun t s2 => ?_)
    unfold wp kUpdT wDk
    cases h1 : dkAt o s2 with
    | none => simp only [h1]
    | some p =>
      cases h2 : dkAt t s2 with
      | none => simp only [h1, h2]
      | some q =>
        obtain ⟨n, kvs⟩ := p
        obtain ⟨k, more⟩ := q
        simp only [h1, h2]
        by_cases h : n ≠ k ∧ kvs.length + more.length ≤ 16777216
        · rw [if_pos h]; simp only [h, true_and, and_self, ne_eq, not_false_eq_true]
        · rw [if_neg h]; simp only [h, false_and]
  cases h : dkAt o s with
  | none => unfold wp wDk; simp only [h]
  | some p =>
    have : ∀ P : Prop, (wDk s o fun _ _ => P) = P := fun P => by unfold wDk; rw [h]
    rw [this, ← key]
    unfold wp
    simp only [h]
end
end Sm

namespace Sm
open PySem L2 Lk
/-! ### lambdas; what ends in an exception -/
section
variable {QT : T → MS → Prop} {st : MS} {LD : Nat → LamD} {mbs : Nat → M T} {mb : M T} {k i n : Nat} {E : Exc → MS → Prop} {a b : M Fl} {c : M Bool} {ms : M (List T)} {mf : MF}
theorem e_lam : wp (mLam LD k) QT st = QT (.val (.lam { LD k with id := k })) st := rfl
theorem wp_kindAt (h : st.sl[i]? = some (.val (.lam { LD k with id := k }))) (hk : k < n) : wp (mKindAt i n LD mbs) QT st = wp (mKind (mbs k)) QT st := by
  unfold wp
  rw [kindAt_ev h hk]
theorem wp_kind_exc {C : Str} {v : Val} (hk : kOut C [] [] = some v) (h : wpE mb (fun e s => e = ⟨C, []⟩ ∧ QT (.val v) s) st) : wp (mKind mb) QT st := by
  unfold wpE at h
  unfold wp mKind
  cases hm : mb st with
  | bad => rw [hm] at h; exact h.elim
  | ok t s => rw [hm] at h; exact h.elim
  | exc e s =>
    rw [hm] at h
    obtain ⟨rfl, h⟩ := h
    dsimp only
    rw [show ([] : List (Str × Val)).map (·.1) = [] from rfl, show ([] : List (Str × Val)).map (·.2) = [] from rfl, hk]
    exact h
theorem wpE_seq (h : wp a (fun f s => f = .nx ∧ wpE b E s) st) : wpE (mSeq a b) E st := by
  unfold wp at h
  unfold wpE mSeq
  cases hm : a st with
  | bad => rw [hm] at h; exact h.elim
  | exc e s => rw [hm] at h; exact h.elim
  | ok f s =>
    rw [hm] at h
    obtain ⟨rfl, h⟩ := h
    exact h
theorem wpE_seq1 (h : wpE a E st) : wpE (mSeq a b) E st := by
  unfold wpE at h
  unfold wpE mSeq
  cases hm : a st with
  | bad => rw [hm] at h; exact h.elim
  | ok f s => rw [hm] at h; exact h.elim
  | exc e s => rw [hm] at h; exact h
theorem wpE_ifT (h : wp c (fun k s => k = true ∧ wpE a E s) st) : wpE (mIf c a b) E st := by
  unfold wp at h
  unfold wpE mIf
  cases hm : c st with
  | bad => rw [hm] at h; exact h.elim
  | exc e s => rw [hm] at h; exact h.elim
  | ok f s =>
    rw [hm] at h
    obtain ⟨rfl, h⟩ := h
    exact h
def wpcE (mf : MF) (vs : List Val) (hp : List Ob) (E : Exc → List Ob → Prop) : Prop := match mf vs hp with
  | .exc e s => E e s.hp
  | _ => False
theorem wpE_call (h : wp ms (fun ts s => wp (mTakes ts) (fun vs s2 => vs.length = n ∧ wpcE mf vs s2.hp fun e hp => E e ⟨hp, s2.sl⟩) s) st) : wpE (mCall n mf ms) E st := by
  unfold wp at h
  unfold wpE mCall
  cases hm : ms st with
  | bad => rw [hm] at h; exact h.elim
  | exc e s => rw [hm] at h; exact h.elim
  | ok ts s =>
    rw [hm] at h
    dsimp only at h ⊢
    cases ht : mTakes ts s with
    | bad => rw [ht] at h; exact h.elim
    | exc e s => rw [ht] at h; exact h.elim
    | ok vs s2 =>
      rw [ht] at h
      obtain ⟨hl, h⟩ := h
      dsimp only [Out.bind]
      rw [ht]
      dsimp only
      rw [if_pos hl]
      unfold wpcE at h
      cases hf : mf vs s2.hp with
      | bad => rw [hf] at h; exact h.elim
      | ok t s => rw [hf] at h; exact h.elim
      | exc e s3 => rw [hf] at h; exact h
theorem wpcE_body {n : Nat} {m : M Fl} {vs : List Val} {hp : List Ob} {E : Exc → List Ob → Prop} (h : wpE m (fun e s => E e s.hp) ⟨hp, vs.map .val ++ List.replicate (n - vs.length) .no⟩) : wpcE (mBody n m) vs hp E := by
  unfold wpE at h
  unfold wpcE mBody
  cases hm : m ⟨hp, vs.map .val ++ List.replicate (n - vs.length) .no⟩ with
  | bad => rw [hm] at h; exact h.elim
  | ok t s => rw [hm] at h; exact h.elim
  | exc e s => rw [hm] at h; exact h
end
end Sm

namespace Sm
open PySem L2 Lk
section
variable {QT : T → MS → Prop} {QL : List Val → MS → Prop} {st : MS} {mi mi1 : M (List Val)} {vs vs1 : List Nat} {gt gt1 : T → M Unit} {ct ct1 : M Bool} {el : M T}
theorem e_comp2 : wp (mComp2 vs vs1 mi gt ct mi1 gt1 ct1 el) QT st = wp mi (fun xs s1 => wp (cloop2 vs vs1 gt ct mi1 gt1 ct1 el xs) (fun ys s2 => ys.length ≤ 16777216 ∧ QT (.own ys) { s2 with sl := unwipe s1.sl s2.sl vs }) s1) st := by
  refine (wp_bind (m := mi)).trans (wp_congr fun xs s => ?_)
  unfold wp
  dsimp only
  cases cloop2 vs vs1 gt ct mi1 gt1 ct1 el xs s with
  | bad => rfl
  | exc e s => rfl
  | ok ys s2 =>
    dsimp only [noexc, Out.bind]
    by_cases h : ys.length ≤ 16777216
    · rw [if_pos h]; simp only [h, true_and]
    · rw [if_neg h]; simp only [h, false_and]
theorem wp_cmap2 {γ : Type} {enc : γ → Val} (f : γ → List Val) (S : MS → Prop) {xs : List γ} (h0 : S st)
    (hs : ∀ x ∈ xs, ∀ s, S s → wp (gt (.val (enc x))) (fun _ s1 => wp ct (fun b s2 => b = true ∧ wp mi1 (fun ys s3 => wp (cloop vs1 gt1 ct1 el ys) (fun zs s4 => zs = f x ∧ S s4) s3) s2) s1) { s with sl := wipeS s.sl vs })
    (he : ∀ s, S s → QL (xs.map f).flatten s) : wp (cloop2 vs vs1 gt ct mi1 gt1 ct1 el (xs.map enc)) QL st := by
  induction xs generalizing QL st with
  | nil => exact he st h0
  | cons x xs ih =>
    have h1 := hs x List.mem_cons_self st h0
    have ih2 := fun (st : MS) (h : S st) => ih (QL := fun ws s => QL (f x ++ ws) s) h (fun y hy => hs y (List.mem_cons_of_mem _ hy)) (fun s hS => by simpa using he s hS)
    unfold wp at h1 ih2 ⊢
    rw [List.map_cons]
    simp only [cloop2]
    cases hg : gt (.val (enc x)) { st with sl := wipeS st.sl vs } with
    | bad => rw [hg] at h1; exact h1.elim
    | exc e s => rw [hg] at h1; exact h1.elim
    | ok u s1 =>
      rw [hg] at h1
      dsimp only [Out.bind] at h1 ⊢
      cases hc : ct s1 with
      | bad => rw [hc] at h1; exact h1.elim
      | exc e s => rw [hc] at h1; exact h1.elim
      | ok b s2 =>
        rw [hc] at h1
        obtain ⟨rfl, h1⟩ := h1
        dsimp only
        rw [if_pos rfl]
        cases hm : mi1 s2 with
        | bad => rw [hm] at h1; exact h1.elim
        | exc e s => rw [hm] at h1; exact h1.elim
        | ok ys s3 =>
          rw [hm] at h1
          dsimp only at h1 ⊢
          cases hk : cloop vs1 gt1 ct1 el ys s3 with
          | bad => rw [hk] at h1; exact h1.elim
          | exc e s => rw [hk] at h1; exact h1.elim
          | ok zs s4 =>
            rw [hk] at h1
            obtain ⟨rfl, hS⟩ := h1
            have h2 := ih2 s4 hS
            dsimp only
            cases hr : cloop2 vs vs1 gt ct mi1 gt1 ct1 el (xs.map enc) s4 with
            | bad => rw [hr] at h2; exact h2.elim
            | exc e s => rw [hr] at h2; exact h2.elim
            | ok ws s5 =>
              rw [hr] at h2
              exact h2
end
end Sm

namespace Sm
open PySem L2 Lk
/-! ### what ends well, or in an exception -/
def wpX {α : Type} (m : M α) (Q : α → MS → Prop) (E : Exc → MS → Prop) (st : MS) : Prop := match m st with
  | .ok a s => Q a s
  | .exc e s => E e s
  | .bad => False
@[irreducible] def wpcX (mf : MF) (vs : List Val) (hp : List Ob) (Q : T → List Ob → Prop) (E : Exc → List Ob → Prop) : Prop := match mf vs hp with
  | .ok t s => Q t s.hp
  | .exc e s => E e s.hp
  | .bad => False
def xNx (b : M Fl) (Q : Fl → MS → Prop) (E : Exc → MS → Prop) (f : Fl) (s : MS) : Prop := match f with
  | .nx => wpX b Q E s
  | f => Q f s
section
variable {α β : Type} {Q : α → MS → Prop} {QF : Fl → MS → Prop} {QT : T → MS → Prop} {E : Exc → MS → Prop} {st : MS} {a b body : M Fl} {c : M Bool} {ms : M (List T)} {mf : MF} {mb : M T} {mi : M (List Val)} {n : Nat} {gt : T → M Unit}
theorem wpX_of {m : M α} (h : wp m Q st) : wpX m Q E st := by
  unfold wp at h
  unfold wpX
  cases q : m st <;> rw [q] at h <;> first | exact h | exact h.elim
theorem wpX_imp {m : M α} {Q' : α → MS → Prop} {E' : Exc → MS → Prop} (h : ∀ a s, Q a s → Q' a s) (he : ∀ e s, E e s → E' e s) : wpX m Q E st → wpX m Q' E' st := by
  unfold wpX
  cases m st <;> first | exact h _ _ | exact he _ _ | exact id
theorem wpX_bind {m : M β} {k : β → M α} : wpX (fun st => (m st).bind k) Q E st = wpX m (fun a s => wpX (k a) Q E s) E st := by
  unfold wpX
  dsimp only
  cases m st <;> rfl
theorem wpX_congr {m : M α} {Q' : α → MS → Prop} (h : ∀ a s, Q a s = Q' a s) : wpX m Q E st = wpX m Q' E st := by
  unfold wpX
  cases m st <;> first | rfl | exact h _ _
theorem x_seq : wpX (mSeq a b) QF E st = wpX a (fun f s => xNx b QF E f s) E st := by
  refine (wpX_bind (m := a)).trans (wpX_congr fun f s => ?_)
  cases f <;> rfl
theorem xNx_nx {s : MS} : xNx b QF E .nx s = wpX b QF E s := rfl
theorem xNx_ret {s : MS} {t : T} : xNx b QF E (.ret t) s = QF (.ret t) s := rfl
theorem x_if : wpX (mIf c a b) QF E st = wpX c (fun k s => wIf k (wpX a QF E s) (wpX b QF E s)) E st := by
  refine (wpX_bind (m := c)).trans (wpX_congr fun k s => ?_)
  cases k <;> rfl
theorem x_skip : wpX mSkip QF E st = QF .nx st := rfl
theorem x_expr {m : M T} : wpX (mExpr m) QF E st = wpX m (fun _ s => QF .nx s) E st := wpX_bind
/-- a statement ahead of which nothing is raised -/
theorem x_first (h : wp a (fun f s => xNx b QF E f s) st) : wpX (mSeq a b) QF E st := by
  rw [x_seq]
  exact wpX_of h
/-- if c: raise .. -/
theorem x_test (h : wp c (fun k s => wIf k (wpX a (fun f s => xNx b QF E f s) E s) (wpX b QF E s)) st) : wpX (mSeq (mIf c a mSkip) b) QF E st := by
  rw [x_seq, x_if]
  exact wpX_of h
theorem x_last {a : M Fl} (h : wp c (fun k s => wIf k (wpX a QF E s) (QF .nx s)) st) : wpX (mIf c a mSkip) QF E st := by
  rw [x_if]
  exact wpX_of h
theorem x_raise {C : Str} (h : E ⟨C, []⟩ st) : wpX (mRaise C) QF E st := h
theorem x_raiseK {C : Str} {ks : List Str} (h : wp ms (fun ts s => wp (mTakes ts) (fun vs s2 => (vs.length = ks.length ∧ ks ≠ []) ∧ E ⟨C, (ks.zip vs).reverse⟩ s2) s) st) : wpX (mRaiseK C ks ms) QF E st := by
  refine (wpX_bind (m := ms) (k := fun ts st1 => _) (α := Fl) (Q := QF)).mpr (wpX_of (wp_imp (fun ts s h => ?_) h))
  refine (wpX_bind (m := mTakes ts) (k := fun vs st2 => if vs.length = ks.length ∧ ks ≠ [] then .exc ⟨C, (ks.zip vs).reverse⟩ st2 else .bad) (α := Fl) (Q := QF)).mpr (wpX_of (wp_imp (fun vs s h => ?_) h))
  unfold wpX
  dsimp only
  rw [if_pos h.1]
  exact h.2
theorem x_for (h : wp mi (fun xs s => wpX (loop gt body xs) QF E s) st) : wpX (mFor mi gt body) QF E st := by
  refine (wpX_bind (m := mi)).mpr (wpX_of h)
theorem x_loop1 {x : Val} {xs : List Val} : wpX (loop gt body (x :: xs)) QF E st = wpX (gt (.val x)) (fun _ s => wpX body (fun f s2 => wLp (fun s => wpX (loop gt body xs) QF E s) QF f s2) E s) E st :=
  (wpX_bind (m := gt (.val x))).trans (wpX_congr fun _ s => (wpX_bind (m := body)).trans (wpX_congr fun f s => by cases f <;> rfl))
theorem wpX_loopE {γ : Type} {enc : γ → Val} (I : Nat → List γ → MS → Prop) {i : Nat} {xs : List γ} (h0 : I i xs st)
    (hs : ∀ i x xs s, I i (x :: xs) s → wp (gt (.val (.tup [.int (i : Nat), enc x]))) (fun _ s1 => wpX body (fun f s2 => wLp (I (i + 1) xs) QF f s2) E s1) s) (he : ∀ i s, I i [] s → QF .nx s) : wpX (loop gt body (enumF i (xs.map enc))) QF E st := by
  induction xs generalizing st i with
  | nil => exact he _ _ h0
  | cons x xs ih =>
    show wpX (loop gt body (.tup [.int (i : Nat), enc x] :: enumF (i + 1) (xs.map enc))) QF E st
    rw [x_loop1]
    refine wpX_of (wp_imp (fun _ s h => wpX_imp (fun f s2 h2 => ?_) (fun _ _ z => z) h) (hs i x xs st h0))
    cases f <;> first | exact ih h2 | exact h2
theorem wpX_loopI {γ : Type} {enc : γ → Val} (I : List γ → MS → Prop) {xs : List γ} (h0 : I xs st)
    (hs : ∀ x xs s, I (x :: xs) s → wp (gt (.val (enc x))) (fun _ s1 => wpX body (fun f s2 => wLp (I xs) QF f s2) E s1) s) (he : ∀ s, I [] s → QF .nx s) : wpX (loop gt body (xs.map enc)) QF E st := by
  induction xs generalizing st with
  | nil => exact he _ h0
  | cons x xs ih =>
    show wpX (loop gt body (enc x :: xs.map enc)) QF E st
    rw [x_loop1]
    refine wpX_of (wp_imp (fun _ s h => wpX_imp (fun f s2 h2 => ?_) (fun _ _ z => z) h) (hs x xs st h0))
    cases f <;> first | exact ih h2 | exact h2
theorem x_body {k : Nat} {m : M Fl} {vs : List Val} {hp : List Ob} {Q : T → List Ob → Prop} {E : Exc → List Ob → Prop} : wpcX (mBody k m) vs hp Q E = wpX m (fun f s => wEnd f fun t => Q t s.hp) (fun e s => E e s.hp) ⟨hp, vs.map .val ++ List.replicate (k - vs.length) .no⟩ := by
  unfold wpcX mBody wpX
  cases m ⟨hp, vs.map .val ++ List.replicate (k - vs.length) .no⟩ with
  | ok f s => cases f <;> rfl
  | _ => rfl
theorem x_call (h : wp ms (fun ts s => wp (mTakes ts) (fun vs s2 => vs.length = n ∧ wpcX mf vs s2.hp (fun t hp => QT t ⟨hp, s2.sl⟩) (fun e hp => E e ⟨hp, s2.sl⟩)) s) st) : wpX (mCall n mf ms) QT E st := by
  refine (wpX_bind (m := ms)).mpr (wpX_of (wp_imp (fun ts s h => ?_) h))
  refine (wpX_bind (m := mTakes ts)).mpr (wpX_of (wp_imp (fun vs s h => ?_) h))
  obtain ⟨hl, h⟩ := h
  unfold wpcX at h
  unfold wpX
  dsimp only
  rw [if_pos hl]
  cases q : mf vs s.hp <;> rw [q] at h <;> exact h
theorem wpc_ofX {vs : List Val} {hp : List Ob} {Q : T → List Ob → Prop} (h : wpcX mf vs hp Q fun _ _ => False) : wpc mf vs hp Q := by
  unfold wpcX at h
  unfold wpc
  cases q : mf vs hp <;> rw [q] at h <;> first | exact h | exact h.elim
theorem wpcX_of {vs : List Val} {hp : List Ob} {Q : T → List Ob → Prop} {E : Exc → List Ob → Prop} (h : wpc mf vs hp Q) : wpcX mf vs hp Q E := by
  unfold wpc at h
  unfold wpcX
  cases q : mf vs hp <;> rw [q] at h <;> first | exact h | exact h.elim
/-- _law_kind(lambda: ..) -/
theorem wp_kindX (h : wpX mb (fun _ s => QT (.val (.tup [.str "", .int 0])) s) (fun e s => ∃ v, kOut e.cls (e.fs.map (·.1)) (e.fs.map (·.2)) = some v ∧ QT (.val v) s) st) : wp (mKind mb) QT st := by
  unfold wpX at h
  unfold wp mKind
  rcases q : mb st with ⟨t, s⟩ | ⟨e, s⟩ | _ <;> rw [q] at h
  · exact h
  · obtain ⟨v, hv, h⟩ := h
    dsimp only
    rw [hv]
    exact h
  · exact h.elim
end
end Sm

namespace Sm
open PySem L2
/-! dicts with nested keys -/
section
variable {ma mb mc : M T} {QT : T → MS → Prop} {QF : Fl → MS → Prop} {st : MS} {n : Nat}
def wNd (st : MS) (t : T) (Q : Nat → List (NestedKey × Val) → Prop) : Prop := match dnAt t st with
  | some (n, kvs) => Q n kvs
  | none => False
theorem wNd_ref {Q : Nat → List (NestedKey × Val) → Prop} : wNd st (.val (.ref n)) Q = (match st.hp[n]? with
  | some (.dn kvs) => Q n kvs
  | _ => False) := by
  unfold wNd dnAt
  dsimp only
  cases st.hp[n]? with
  | none => rfl
  | some x => cases x <;> rfl
theorem e_nnew : wp mNNew QT st = QT (.val (.ref st.hp.length)) { st with hp := st.hp ++ [.dn []] } := rfl
theorem e_nget : wp (mNGet ma mb) QT st = wp ma (fun o s1 => wp mb (fun i s2 => wNd s2 o fun n kvs => wO ((view i s2).bind keyD) fun k => wO (lookN kvs k) fun v => QT (.val v) s2) s1) st := by
  refine (wp_bind (m := ma)).trans (wp_congr fun t s => (wp_bind (m := mb)).trans (wp_congr fun i s2 => ?_))
  unfold wp nGetT wNd wO
  dsimp only
  cases dnAt t s2 with
  | none => rfl
  | some p =>
    dsimp only
    cases (view i s2).bind keyD with
    | none => rfl
    | some k =>
      dsimp only
      cases lookN p.2 k <;> rfl
theorem e_nin {neg : Bool} : wp (mNIn neg ma mb) QT st = wp ma (fun i s1 => wp mb (fun o s2 => wNd s2 o fun n kvs => wO ((view i s2).bind keyD) fun k => QT (.val (.bl (if neg then !(lookN kvs k).isSome else (lookN kvs k).isSome))) s2) s1) st := by
  refine (wp_bind (m := ma)).trans (wp_congr fun t s => (wp_bind (m := mb)).trans (wp_congr fun i s2 => ?_))
  unfold wp nHasT wNd wO
  dsimp only
  cases dnAt i s2 with
  | none => rfl
  | some p =>
    dsimp only
    cases (view t s2).bind keyD <;> rfl
theorem e_nput : wp (mNPut mc ma mb) QF st = wp mc (fun t s1 => wp (mTake t) (fun v s1' => wp ma (fun o s2 => wp mb (fun i s3 => wNd s3 o fun n kvs => wO ((view i s3).bind keyD) fun k => kvs.length < 16777216 ∧ QF .nx { s3 with hp := s3.hp.set n (.dn (putNv kvs k v)) }) s2) s1') s1) st := by
  refine (wp_bind (m := mc)).trans (wp_congr fun t s => (wp_bind (m := mTake t)).trans (wp_congr fun v s1 => (wp_bind (m := ma)).trans (wp_congr fun o s2 => (wp_bind (m := mb)).trans (wp_congr fun i s3 => ?_))))
  unfold wp nPutT wNd wO
  dsimp only
  cases dnAt o s3 with
  | none => rfl
  | some p =>
    dsimp only
    cases (view i s3).bind keyD with
    | none => rfl
    | some k =>
      dsimp only
      by_cases h : p.2.length < 16777216 <;> simp [h]
end
end Sm

namespace Sm
open PySem L2
theorem o_divX {i j : Int} {Q : T → Prop} : wO (fDivX (.int i) (.int j)) Q = ((j ≠ 0 ∧ -18446744073709551616 < j ∧ j < 18446744073709551616) ∧ Q (.val (.int (i.fdiv j)))) := by
  refine (wO_if (c := (j != 0 && decide (j.natAbs < 2 ^ 64)) = true)).trans ?_
  have : ((j != 0 && decide (j.natAbs < 2 ^ 64)) = true) = (j ≠ 0 ∧ -18446744073709551616 < j ∧ j < 18446744073709551616) := by
    simp only [Bool.and_eq_true, bne_iff_ne, ne_eq, decide_eq_true_eq, eq_iff_iff, Nat.reducePow]
    omega
  rw [this]
end Sm

namespace Sm
open PySem L2 Lk
section
variable {α β : Type} {QT : T → MS → Prop} {QA : List T → MS → Prop} {E : Exc → MS → Prop} {st : MS} {m mb : M T} {ms : M (List T)}
theorem x_a1 (h : wpX mb (fun t s => QA [t] s) E st) : wpX (mA1 mb mA0) QA E st := by
  refine (wpX_bind (m := mb)).mpr (wpX_imp (fun t s h => ?_) (fun _ _ z => z) h)
  exact h
/-- xs.append(.. what may raise ..) -/
theorem x_ch {f : List Val → List Val → Option (List Val × Val)} (h : wp m (fun o s1 => isL o s1 = true ∧ wpX ms (fun ts s2 => wp (mTakes ts) (fun vs s3 => wp (chL o fun l => f l vs) QT s3) s2) E s1) st) : wpX (mCh f m ms) QT E st := by
  refine (wpX_bind (m := m)).mpr (wpX_of (wp_imp (fun o s1 h => ?_) h))
  obtain ⟨hl, h⟩ := h
  unfold wpX
  dsimp only
  rw [if_pos hl]
  have h2 : wpX (fun st => (ms st).bind fun ts st2 => (mTakes ts st2).bind fun vs st3 => chL o (fun l => f l vs) st3) QT E s1 := by
    refine (wpX_bind (m := ms)).mpr (wpX_imp (fun ts s2 h => ?_) (fun _ _ z => z) h)
    refine (wpX_bind (m := mTakes ts)).mpr (wpX_of (wp_imp (fun vs s3 h => ?_) h))
    exact wpX_of h
  exact h2
theorem x_ch1 {f : List Val → List Val → Option (List Val × Val)} (h : wp m (fun o s1 => isL o s1 = true ∧ wpX mb (fun t s2 => wp (mTakes [t]) (fun vs s3 => wp (chL o fun l => f l vs) QT s3) s2) E s1) st) : wpX (mCh f m (mA1 mb mA0)) QT E st :=
  x_ch (wp_imp (fun _ _ h => ⟨h.1, x_a1 h.2⟩) h)
end
end Sm

namespace Sm
open PySem L2 Lk
section
variable {QT : T → MS → Prop} {QF : Fl → MS → Prop} {E : Exc → MS → Prop} {st : MS} {ma mb mo : M T} {ms : M (List T)} {x : Int} {C f : Str} {k : Nat} {mf : MF} {a b : M Fl}
theorem e_kpop : wp (mKPop ma mb) QT st = wp ma (fun o s1 => wDk s1 o fun _ _ => wp mb (fun i s2 => wDk s2 o fun n kvs => wO ((view i s2).bind keyK) fun k => wO (lookK kvs k) fun v => QT (.val v) { s2 with hp := s2.hp.set n (.dk (delKk kvs k)) }) s1) st := by
  refine (wp_bind (m := ma)).trans (wp_congr fun o s => ?_)
  have key : wp (fun s1 => (mb s1).bind fun i s2 => kPopT o i s2) QT s = wp mb (fun i s2 => wDk s2 o fun n kvs => wO ((view i s2).bind keyK) fun k => wO (lookK kvs k) fun v => QT (.val v) { s2 with hp := s2.hp.set n (.dk (delKk kvs k)) }) s := by
    refine (wp_bind (m := mb)).trans (wp_congr fun i s2 => ?_)
    unfold wp kPopT wDk wO
    dsimp only
    cases dkAt o s2 with
    | none => rfl
    | some p =>
      dsimp only
      cases (view i s2).bind keyK with
      | none => rfl
      | some k =>
        dsimp only
        cases lookK p.2 k <;> rfl
  unfold wDk at key ⊢
  unfold wp at key ⊢
  dsimp only at key ⊢
  cases h : dkAt o s with
  | none => rfl
  | some p => exact key
theorem e_kgeti : wp (mKGetI ma mb x) QT st = wp ma (fun o s1 => wDk s1 o fun _ _ => wp mb (fun i s2 => wDk s2 o fun n kvs => wO ((view i s2).bind keyK) fun k => QT (.val ((lookK kvs k).getD (.int x))) s2) s1) st := by
  refine (wp_bind (m := ma)).trans (wp_congr fun o s => ?_)
  have key : wp (fun s1 => (mb s1).bind fun i s2 => kGetDT o i (.int x) s2) QT s = wp mb (fun i s2 => wDk s2 o fun n kvs => wO ((view i s2).bind keyK) fun k => QT (.val ((lookK kvs k).getD (.int x))) s2) s := by
    refine (wp_bind (m := mb)).trans (wp_congr fun i s2 => ?_)
    unfold wp kGetDT wDk wO
    dsimp only
    cases dkAt o s2 with
    | none => rfl
    | some p =>
      dsimp only
      cases (view i s2).bind keyK <;> rfl
  unfold wDk at key ⊢
  unfold wp at key ⊢
  dsimp only at key ⊢
  cases h : dkAt o s with
  | none => rfl
  | some p => exact key
theorem e_gkput {t : T} {QU : Unit → MS → Prop} : wp (mGKPut ma mb t) QU st = wp (mTake t) (fun v s1' => wp ma (fun o s2 => wp mb (fun i s3 => wDk s3 o fun n kvs => wO ((view i s3).bind keyK) fun k => kvs.length < 16777216 ∧ QU () { s3 with hp := s3.hp.set n (.dk (putKk kvs k v)) }) s2) s1') st := by
  refine (wp_bind (m := mTake t)).trans (wp_congr fun v s1 => (wp_bind (m := ma)).trans (wp_congr fun o s2 => (wp_bind (m := mb)).trans (wp_congr fun i s3 => ?_)))
  unfold wp kPutU wDk wO
  dsimp only
  cases dkAt o s3 with
  | none => rfl
  | some p =>
    dsimp only
    cases (view i s3).bind keyK with
    | none => rfl
    | some k =>
      dsimp only
      by_cases h : p.2.length < 16777216
      · rw [if_pos h]; simp only [h, true_and]
      · rw [if_neg h]; simp only [h, false_and]
/-- a method that may raise -/
theorem x_meth (h : wp mo (fun o s1 => wIns s1 o fun n D fs => (D = C ∧ fs.lookup f = none) ∧ wp ms (fun ts s2 => wp (mTakes (o :: ts)) (fun vs s3 => vs.length = k ∧ wpcX mf vs s3.hp (fun t hp => QT t ⟨hp, s3.sl⟩) (fun e hp => E e ⟨hp, s3.sl⟩)) s2) s1) st) : wpX (mMeth C f k mf mo ms) QT E st := by
  refine (wpX_bind (m := mo)).mpr (wpX_of (wp_imp (fun o s h => ?_) h))
  unfold wIns at h
  cases hi : insAt o s with
  | none => rw [hi] at h; exact h.elim
  | some p =>
    obtain ⟨n, D, fs⟩ := p
    rw [hi] at h
    dsimp only at h
    obtain ⟨hc, h⟩ := h
    have h2 : wpX (fun s1 => (ms s1).bind fun ts st2 => (mTakes (o :: ts) st2).bind fun vs st3 => if vs.length = k then back st3 (mf vs st3.hp) else .bad) QT E s := by
      refine (wpX_bind (m := ms)).mpr (wpX_of (wp_imp (fun ts s h => ?_) h))
      refine (wpX_bind (m := mTakes (o :: ts))).mpr (wpX_of (wp_imp (fun vs s h => ?_) h))
      obtain ⟨hl, h⟩ := h
      unfold wpcX at h
      unfold wpX
      dsimp only
      rw [if_pos hl]
      cases q : mf vs s.hp <;> rw [q] at h <;> exact h
    unfold wpX at h2 ⊢
    dsimp only at h2 ⊢
    rw [hi]
    dsimp only
    rw [if_pos hc]
    exact h2
theorem x_ret (h : wpX ma (fun t s => wGive QF t s) E st) : wpX (mRet ma) QF E st := by
  refine (wpX_bind (m := ma)).mpr (wpX_imp (fun t s h => ?_) (fun _ _ z => z) h)
  unfold wGive at h
  unfold wpX give
  cases t with
  | val v => exact h
  | own v => exact h
  | loc i =>
    dsimp only at h ⊢
    cases hs : s.sl[i]? with
    | none => rw [hs] at h; exact h.elim
    | some x => rw [hs] at h; cases x <;> first | exact h | exact h.elim
theorem x_seqE (h : wpX a (fun f s => xNx b QF E f s) E st) : wpX (mSeq a b) QF E st := by
  rw [x_seq]
  exact h
theorem x_exprE (h : wpX ma (fun _ s => QF .nx s) E st) : wpX (mExpr ma) QF E st := by
  rw [x_expr]
  exact h
theorem x_asgE {mt : T → M Unit} (h : wpX ma (fun t s => wp (mt t) (fun _ s => QF .nx s) s) E st) : wpX (mAsg ma mt) QF E st := by
  refine (wpX_bind (m := ma)).mpr (wpX_imp (fun t s h => ?_) (fun _ _ z => z) h)
  refine wpX_of (m := fun s => okU (mt t s)) ?_
  rw [e_okU]
  exact h
theorem x_ifEE {mc : M Bool} (h : wp mc (fun k s => wIf k (wpX ma QT E s) (wpX mb QT E s)) st) : wpX (mIfE mc ma mb) QT E st := by
  have e : wpX (mIfE mc ma mb) QT E st = wpX mc (fun k s => wIf k (wpX ma QT E s) (wpX mb QT E s)) E st := by
    refine (wpX_bind (m := mc)).trans (wpX_congr fun k s => ?_)
    cases k <;> rfl
  rw [e]
  exact wpX_of h
theorem x_ifE (h : wp (mTst mo) (fun k s => wIf k (wpX a QF E s) (wpX b QF E s)) st) : wpX (mIf (mTst mo) a b) QF E st := by
  rw [x_if]
  exact wpX_of h
end
end Sm

namespace Sm
open PySem L2 Lk
def wStr (o : Option Val) (Q : Str → Prop) : Prop := match o with
  | some (.str z) => Q z
  | _ => False
theorem wStr_s {z : Str} {Q : Str → Prop} : wStr (some (.str z)) Q = Q z := rfl
section
variable {QT : T → MS → Prop} {QF : Fl → MS → Prop} {QU : Unit → MS → Prop} {st : MS} {m : M T} {b : M Fl} {tb : List (Str × Int)} {x : Int} {mts : List Val → M Unit} {t : T}
theorem e_tryN : wp (mTryN b) QF st = wp b QF st := by
  unfold wp mTryN
  cases h : b st <;> simp only [h]
theorem e_sz : wp (mSz tb m x) QT st = wp m (fun t s => wStr (view t s) fun z => QT (.val (.int ((tb.lookup z).getD x))) s) st := by
  refine (wp_bind (m := m)).trans (wp_congr fun t s => ?_)
  unfold wp wStr
  dsimp only
  cases view t s with
  | none => rfl
  | some v => cases v <;> rfl
theorem e_gstar : wp (mGStar mts t) QU st = (match view t st with
  | some (.tup (v :: vs)) => vs.length ≤ 1000 ∧ wp (mts [v, .lst vs]) QU st
  | _ => False) := by
  unfold wp mGStar
  cases view t st with
  | none => rfl
  | some v =>
    cases v <;> try rfl
    rename_i vs
    cases vs with
    | nil => rfl
    | cons v vs =>
      dsimp only
      by_cases h : vs.length ≤ 1000
      · rw [if_pos h]; simp only [h, true_and]
      · rw [if_neg h]; simp only [h, false_and]
end
end Sm

namespace Sm
open PySem L2 Lk
section
variable {QL : List Val → MS → Prop} {st : MS} {m : M T}
theorem e_itemsS : wp (mItemsS m) QL st = wp m (fun t s => wStr (view t s) fun z => QL (signs z) s) st := by
  refine (wp_bind (m := m)).trans (wp_congr fun t s => ?_)
  unfold wp wStr
  dsimp only
  cases view t s with
  | none => rfl
  | some v => cases v <;> rfl
end
end Sm

namespace Wk
open PySem L2 Sm Lk
def top (i : Nat) : Stmt := PySem.Challenge.pw_onebreath_k12_texts_of_no_world.main.body.getD i (.Pass ⟨0, 0, 0, 0⟩)
abbrev st__law_alike : Stmt := top 30
abbrev st__law_numbers : Stmt := top 35
abbrev st__law_due : Stmt := top 36
abbrev st__law_kind : Stmt := top 34
abbrev st__law_mix : Stmt := top 28
abbrev st__law_next : Stmt := top 29
abbrev st__law_text : Stmt := top 33
abbrev st__law_world : Stmt := top 31
abbrev st_need_steps : Stmt := top 18
abbrev st_need_store : Stmt := top 17
abbrev st_need_world : Stmt := top 19
abbrev st_is_number : Stmt := top 24
abbrev st_numbers_in : Stmt := top 25
abbrev st_read : Stmt := top 26
abbrev st_law : Stmt := top 37
abbrev st_BadStep___init__ : Stmt := inClass (top 3) 0
abbrev st_BadText___init__ : Stmt := inClass (top 10) 0
structure Facts (K : PySem.W.Frag) (mg : Str → Option Value) : Prop where
  d__law_alike : ∃ f fd, mg "_law_alike" = some (.ref f) ∧ FunD K "_law_alike" "_law_alike" (defArgs st__law_alike) (defBody st__law_alike) (defScope st__law_alike) [] [] f fd
  d__law_numbers : ∃ f fd, mg "_law_numbers" = some (.ref f) ∧ FunD K "_law_numbers" "_law_numbers" (defArgs st__law_numbers) (defBody st__law_numbers) (defScope st__law_numbers) [] [] f fd
  d__law_due : ∃ f fd, mg "_law_due" = some (.ref f) ∧ FunD K "_law_due" "_law_due" (defArgs st__law_due) (defBody st__law_due) (defScope st__law_due) [] [] f fd
  d__law_kind : ∃ f fd, mg "_law_kind" = some (.ref f) ∧ FunD K "_law_kind" "_law_kind" (defArgs st__law_kind) (defBody st__law_kind) (defScope st__law_kind) [] [] f fd
  d__law_mix : ∃ f fd, mg "_law_mix" = some (.ref f) ∧ FunD K "_law_mix" "_law_mix" (defArgs st__law_mix) (defBody st__law_mix) (defScope st__law_mix) [] [] f fd
  d__law_next : ∃ f fd, mg "_law_next" = some (.ref f) ∧ FunD K "_law_next" "_law_next" (defArgs st__law_next) (defBody st__law_next) (defScope st__law_next) [] [] f fd
  d__law_text : ∃ f fd, mg "_law_text" = some (.ref f) ∧ FunD K "_law_text" "_law_text" (defArgs st__law_text) (defBody st__law_text) (defScope st__law_text) [] [] f fd
  d__law_world : ∃ f fd, mg "_law_world" = some (.ref f) ∧ FunD K "_law_world" "_law_world" (defArgs st__law_world) (defBody st__law_world) (defScope st__law_world) [] [] f fd
  d_need_steps : ∃ f fd, mg "need_steps" = some (.ref f) ∧ FunD K "need_steps" "need_steps" (defArgs st_need_steps) (defBody st_need_steps) (defScope st_need_steps) [] [] f fd
  d_need_store : ∃ f fd, mg "need_store" = some (.ref f) ∧ FunD K "need_store" "need_store" (defArgs st_need_store) (defBody st_need_store) (defScope st_need_store) [] [] f fd
  d_need_world : ∃ f fd, mg "need_world" = some (.ref f) ∧ FunD K "need_world" "need_world" (defArgs st_need_world) (defBody st_need_world) (defScope st_need_world) [] [] f fd
  d_is_number : ∃ f fd, mg "is_number" = some (.ref f) ∧ FunD K "is_number" "is_number" (defArgs st_is_number) (defBody st_is_number) (defScope st_is_number) [] [] f fd
  d_numbers_in : ∃ f fd, mg "numbers_in" = some (.ref f) ∧ FunD K "numbers_in" "numbers_in" (defArgs st_numbers_in) (defBody st_numbers_in) (defScope st_numbers_in) [] [] f fd
  d_read : ∃ f fd, mg "read" = some (.ref f) ∧ FunD K "read" "read" (defArgs st_read) (defBody st_read) (defScope st_read) [] [] f fd
  d_law : ∃ fd, mg "law" = some (.ref (He.ga K "law")) ∧ FunD K "law" "law" (defArgs st_law) (defBody st_law) (defScope st_law) [] [] (He.ga K "law") fd
  g_law : lamGd K "law" = true
  tu : ((tbl K).map (·.1)).Nodup
  kx : ExK K mg
  r_BadStore : RsT K mg "BadStore"
  xb : BaseI K mg "BreathError"
  xf_BadStep : XkF K mg "BadStep" ["machine", "step"] ∧ ∃ fd, FunD K "__init__" "BadStep.__init__" (defArgs st_BadStep___init__) (defBody st_BadStep___init__) (defScope st_BadStep___init__) [] [] (He.ma K (He.ga K "BadStep") "__init__") fd
  xf_BadText : XkF K mg "BadText" ["row"] ∧ ∃ fd, FunD K "__init__" "BadText.__init__" (defArgs st_BadText___init__) (defBody st_BadText___init__) (defScope st_BadText___init__) [] [] (He.ma K (He.ga K "BadText") "__init__") fd
  c_FIGURES : ∃ t, mg "FIGURES" = some (.str "0123456789" t)
  c_MACHINE : ∃ t, mg "MACHINE" = some (.str "machine" t)
  c_MOST_CAP : ∃ t, mg "MOST_CAP" = some (.int 99 t)
  c_MOST_LONG : ∃ t, mg "MOST_LONG" = some (.int 9 t)
  c_MOST_MACHINES : ∃ t, mg "MOST_MACHINES" = some (.int 5 t)
  c_MOST_REFILL : ∃ t, mg "MOST_REFILL" = some (.int 9 t)
  c_MOST_STEPS : ∃ t, mg "MOST_STEPS" = some (.int 6 t)
  c_STORE : ∃ t, mg "STORE" = some (.str "store" t)
  m_ValueError : mg "ValueError" = none
  m_all : mg "all" = none
  m_bool : mg "bool" = none
  m_enumerate : mg "enumerate" = none
  m_int : mg "int" = none
  m_isinstance : mg "isinstance" = none
  m_len : mg "len" = none
  m_list : mg "list" = none
  m_max : mg "max" = none
  m_min : mg "min" = none
  m_range : mg "range" = none
  m_str : mg "str" = none
  m_tuple : mg "tuple" = none
variable {P : Program} {w : World} {K : PySem.W.Frag} {mg : Str → Option Value} {base : Heap}
theorem sc_BadStep___init__ : FnScope ["self", "machine", "step"] ["self", "machine", "step"] (defScope st_BadStep___init__) := ⟨rfl, rfl, rfl, by decide +kernel, rfl, by decide +kernel, by decide +kernel⟩
theorem ok_x_BadStep (T : Facts K mg) : XkOk P w K mg base "BadStep" ["machine", "step"] := by
  obtain ⟨F, fd, D⟩ := T.xf_BadStep
  exact F.ok (init2 D sc_BadStep___init__ T.xb (by rfl) (Or.inl rfl) (Or.inl rfl) (by decide) (by decide) (Or.inl rfl) (by decide) (by decide) fun _ _ _ _ _ _ => ⟨_, rfl⟩) (xkb D fun _ _ _ _ _ _ u ws hl => match ws, hl with | [_, _], _ => rfl)
theorem sc_BadText___init__ : FnScope ["self", "row"] ["self", "row"] (defScope st_BadText___init__) := ⟨rfl, rfl, rfl, by decide +kernel, rfl, by decide +kernel, by decide +kernel⟩
theorem ok_x_BadText (T : Facts K mg) : XkOk P w K mg base "BadText" ["row"] := by
  obtain ⟨F, fd, D⟩ := T.xf_BadText
  exact F.ok (init1 D sc_BadText___init__ T.xb (by rfl) (Or.inl rfl) (Or.inl rfl) (by decide) (by decide) fun _ _ _ _ _ _ => ⟨_, rfl⟩) (xkb D fun _ _ _ _ _ _ u ws hl => match ws, hl with | [_], _ => rfl)

theorem sc__law_alike : FnScope ["_law_found", "_law_due_here", "_law_k"] ["_law_found", "_law_due_here"] (defScope st__law_alike) := ⟨rfl, rfl, rfl, by decide +kernel, rfl, by decide +kernel, by decide +kernel⟩
def m__law_alike (R : MF) : M Fl := (mSeq (mIf (mTst (mCB fIsi (mA1 (mV 1) (mA1 (mTup (mA1 (mC (.ty "tuple")) (mA1 (mC (.ty "list")) mA0))) mA0)))) (mSeq (mIf (mOr (mNot (mTst (mCB fIsi (mA1 (mV 0) (mA1 (mTup (mA1 (mC (.ty "tuple")) (mA1 (mC (.ty "list")) mA0))) mA0))))) (mTst (mOp2 fNe (mCB fIsi (mA1 (mV 0) (mA1 (mC (.ty "list")) mA0))) (mCB fIsi (mA1 (mV 1) (mA1 (mC (.ty "list")) mA0)))))) (mRet (mC (.bl false))) mSkip)
      (mSeq (mIf (mTst (mOp2 fNe (mCB fLen (mA1 (mV 0) mA0)) (mCB fLen (mA1 (mV 1) mA0)))) (mRet (mC (.bl false))) mSkip)
      (mRet (mOp2 fEq (mComp [2] (mRng1 (mCB fLen (mA1 (mV 1) mA0))) (mGN 2) (mNot (mTst (mCall 2 (R) (mA1 (mOp2 fIx (mV 0) (mV 2)) (mA1 (mOp2 fIx (mV 1) (mV 2)) mA0))))) (mV 2)) (mLst mA0))))) mSkip)
      (mSeq (mIf (mOr (mTst (mOp2 fIsN (mV 1) (mC .non))) (mTst (mCB fIsi (mA1 (mV 1) (mA1 (mC (.ty "str")) mA0))))) (mRet (mAndV (mOp2 fEq (mV 0) (mV 1)) (mOp2 fEq (mCB fIsi (mA1 (mV 0) (mA1 (mC (.ty "str")) mA0))) (mCB fIsi (mA1 (mV 1) (mA1 (mC (.ty "str")) mA0)))))) mSkip)
      (mRet (mAndV (mCB fIsi (mA1 (mV 0) (mA1 (mC (.ty "int")) mA0))) (mAndV (mOp2 fEq (mCB fIsi (mA1 (mV 0) (mA1 (mC (.ty "bool")) mA0))) (mCB fIsi (mA1 (mV 1) (mA1 (mC (.ty "bool")) mA0)))) (mOp2 fEq (mV 0) (mV 1)))))))
def mf__law_alike : Nat → MF
  | 0 => fun _ _ => .bad
  | n + 1 => mBody 3 (m__law_alike (mf__law_alike n))
theorem ok__law_alike (T : Facts K mg) (B : TBs K mg base) : ∀ n : Nat, DOk P w K mg base (1 + n) "_law_alike" 2 ["_law_found", "_law_due_here"] (mf__law_alike n)
  | 0 => DOk.bad T.d__law_alike rfl (fun F => FunD.bindsN (ps := ["_law_found", "_law_due_here"]) F fun _ _ _ _ _ _ us hl => match us, hl with | [_, _], _ => rfl)
  | n + 1 => by
    have ih := ok__law_alike T B n
    refine DOk.mk2 (k := 1 + n) T.d__law_alike sc__law_alike (fun F => FunD.bindsN (ps := ["_law_found", "_law_due_here"]) F fun _ _ _ _ _ _ us hl => match us, hl with | [_, _], _ => rfl) fun cdv A outer s H E _ hr tk => ?_
    have nd := sc__law_alike.nd
    have hu := hr.units
    have hu1 := hu_of hr
    exact (b_cons (k_if (t_val (s_callB o_isi p_isi (by rfl) T.m_isinstance (by decide +kernel) (a_1 (s_v 1) (a_1 (s_tup (a_1 (s_ty (by rfl) T.m_tuple (by decide +kernel)) (a_1 (s_ty (by rfl) T.m_list (by decide +kernel)) a_0))) a_0)))) (b_cons (k_if (t_w (w_or (t_not (t_val (s_callB o_isi p_isi (by rfl) T.m_isinstance (by decide +kernel) (a_1 (s_v 0) (a_1 (s_tup (a_1 (s_ty (by rfl) T.m_tuple (by decide +kernel)) (a_1 (s_ty (by rfl) T.m_list (by decide +kernel)) a_0))) a_0))))) (w_or1 (t_cmp (op_neD hu) p_ne (s_callB o_isi p_isi (by rfl) T.m_isinstance (by decide +kernel) (a_1 (s_v 0) (a_1 (s_ty (by rfl) T.m_list (by decide +kernel)) a_0))) (s_callB o_isi p_isi (by rfl) T.m_isinstance (by decide +kernel) (a_1 (s_v 1) (a_1 (s_ty (by rfl) T.m_list (by decide +kernel)) a_0))) (nomark _))))) (b_one (k_ret s_bl)) b_nil)
      (b_cons (k_if (t_cmp (op_neD hu) p_ne (s_callB call_len p_len (by rfl) T.m_len (by decide +kernel) (a_1 (s_v 0) a_0)) (s_callB call_len p_len (by rfl) T.m_len (by decide +kernel) (a_1 (s_v 1) a_0)) (nomark _)) (b_one (k_ret s_bl)) b_nil)
      (b_one (k_ret (s_cmp (op_eqD hu) p_eq (s_comp (own := [("_law_k", 2)]) rfl nd (i_rng1 (by rfl) T.m_range (s_callB call_len p_len (by rfl) T.m_len (by decide +kernel) (a_1 (s_v 1) a_0))) (blkOk_by (N := ["_law_found", "_law_due_here", "_law_k"]) (sc := defScope st__law_alike) (own := [("_law_k", 2)]) (by decide +kernel)) (fun _ _ _ _ _ => (g_name (i := 2) nd)) (fun _ _ _ _ _ => (c_if (t_not (t_val (s_callD takes0 ih hr (by rfl) (a_1 (s_ix ix_seq p_ix (s_v 0) (s_v 2) (fun _ _ => rfl)) (a_1 (s_ix ix_seq p_ix (s_v 1) (s_v 2) (fun _ _ => rfl)) a_0))))))) (fun _ _ _ _ _ => (s_v 2))) (s_lst a_0) (nomark _)))))) b_nil)
      (b_cons (k_if (t_w (w_or (t_cmp op_isN p_isN (s_v 1) s_non (nomark _)) (w_or1 (t_val (s_callB o_isi p_isi (by rfl) T.m_isinstance (by decide +kernel) (a_1 (s_v 1) (a_1 (s_ty (by rfl) T.m_str (by decide +kernel)) a_0))))))) (b_one (k_ret (s_and (s_cmp (op_eqD hu) p_eq (s_v 0) (s_v 1) (nomark _)) (s_b1 (s_cmp (op_eqD hu) p_eq (s_callB o_isi p_isi (by rfl) T.m_isinstance (by decide +kernel) (a_1 (s_v 0) (a_1 (s_ty (by rfl) T.m_str (by decide +kernel)) a_0))) (s_callB o_isi p_isi (by rfl) T.m_isinstance (by decide +kernel) (a_1 (s_v 1) (a_1 (s_ty (by rfl) T.m_str (by decide +kernel)) a_0))) (nomark _)))))) b_nil)
      (b_one (k_ret (s_and (s_callB o_isi p_isi (by rfl) T.m_isinstance (by decide +kernel) (a_1 (s_v 0) (a_1 (s_ty (by rfl) T.m_int (by decide +kernel)) a_0))) (s_and (s_cmp (op_eqD hu) p_eq (s_callB o_isi p_isi (by rfl) T.m_isinstance (by decide +kernel) (a_1 (s_v 0) (a_1 (s_ty (by rfl) T.m_bool (by decide +kernel)) a_0))) (s_callB o_isi p_isi (by rfl) T.m_isinstance (by decide +kernel) (a_1 (s_v 1) (a_1 (s_ty (by rfl) T.m_bool (by decide +kernel)) a_0))) (nomark _)) (s_b1 (s_cmp (op_eqD hu) p_eq (s_v 0) (s_v 1) (nomark _)))))))))

theorem sc__law_numbers : FnScope ["_law_words", "_law_word", "_law_good", "_law_sign"] ["_law_words"] (defScope st__law_numbers) := ⟨rfl, rfl, rfl, by decide +kernel, rfl, by decide +kernel, by decide +kernel⟩
def m__law_numbers : M Fl := (mSeq (mFor (mItems (mV 0)) (mGN 1) (mSeq (mAsg (mComp [3] (mItemsS (mV 1)) (mGN 3) (mTst (mChain fLeS fLeS (mC (.str "0")) (mV 3) (mC (.str "9")))) (mV 3)) (mGN 2))
      (mIf (mOr (mNot (mTst (mChain fLe fLe (mC (.int (1))) (mCB fLen (mA1 (mV 1) mA0)) (mC (.int (2)))))) (mOr (mTst (mOp2 fLt (mCB fLen (mA1 (mV 2) mA0)) (mCB fLen (mA1 (mV 1) mA0)))) (mAnd (mTst (mOp2 fNe (mV 1) (mC (.str "0")))) (mTst (mOp2 fEq (mOp2 fIx (mV 1) (mC (.int (0)))) (mC (.str "0"))))))) (mRet (mC .non)) mSkip)))
      (mRet (mIfE (mTst (mOp2 fEq (mCB fLen (mA1 (mV 0) mA0)) (mC (.int (3))))) (mCB fTuple (mA1 (mComp [1] (mItems (mV 0)) (mGN 1) mYes (mCB fInt (mA1 (mV 1) mA0))) mA0)) (mC .non))))
def mf__law_numbers : MF := mBody 4 m__law_numbers
theorem ok__law_numbers (T : Facts K mg) (B : TBs K mg base) : DOk P w K mg base 1 "_law_numbers" 1 ["_law_words"] mf__law_numbers := by
  refine DOk.mk2 (k := 0) T.d__law_numbers sc__law_numbers (fun F => FunD.bindsN (ps := ["_law_words"]) F fun _ _ _ _ _ _ us hl => match us, hl with | [_], _ => rfl) fun cdv A outer s H E _ hr tk => ?_
  have nd := sc__law_numbers.nd
  have hu := hr.units
  have hu1 := hu_of hr
  exact (b_cons (k_for (passes_of rfl) rfl (i_seq (s_v 0)) (g_name (i := 1) nd) (b_cons (k_setComp (i := 2) (own := [("_law_sign", 3)]) rfl nd (i_str (s_v 1)) (blkOk_by (N := ["_law_words", "_law_word", "_law_good", "_law_sign"]) (sc := defScope st__law_numbers) (own := [("_law_sign", 3)]) (by decide +kernel)) (fun _ _ _ _ _ => (g_name (i := 3) nd)) (fun _ _ _ _ _ => (c_if (t_chain op_le_str op_le_str p_leS p_leS s_str (s_v 3) s_str))) (fun _ _ _ _ _ => (s_v 3)) (sw_true rfl rfl rfl (by decide +kernel)))
      (b_one (k_if (t_w (w_or (t_not (t_chain op_le op_le p_le p_le s_int (s_callB call_len p_len (by rfl) T.m_len (by decide +kernel) (a_1 (s_v 1) a_0)) s_int)) (w_or (t_cmp op_lt p_lt (s_callB call_len p_len (by rfl) T.m_len (by decide +kernel) (a_1 (s_v 2) a_0)) (s_callB call_len p_len (by rfl) T.m_len (by decide +kernel) (a_1 (s_v 1) a_0)) (nomark _)) (w_or1 (t_w (w_and (t_cmp (op_neD hu) p_ne (s_v 1) s_str (nomark _)) (w_and1 (t_cmp (op_eqD hu) p_eq (s_ix ix_seq p_ix (s_v 1) s_int (fun _ _ => rfl)) s_str (nomark _))))))))) (b_one (k_ret s_non)) b_nil))))
      (b_one (k_ret (s_if (t_cmp (op_eqD hu) p_eq (s_callB call_len p_len (by rfl) T.m_len (by decide +kernel) (a_1 (s_v 0) a_0)) s_int (nomark _)) (s_callTy call_tuple_of p_tuple (by rfl) T.m_tuple (by decide +kernel) (a_1 (s_comp (own := [("_law_word", 1)]) rfl nd (i_seq (s_v 0)) (blkOk_by (N := ["_law_words", "_law_word", "_law_good", "_law_sign"]) (sc := defScope st__law_numbers) (own := [("_law_word", 1)]) (by decide +kernel)) (fun _ _ _ _ _ => (g_name (i := 1) nd)) (fun _ _ _ _ _ => c_yes) (fun _ _ _ _ _ => (s_callTy call_int_str p_int (by rfl) T.m_int (by decide +kernel) (a_1 (s_v 1) a_0)))) a_0)) s_non))))

theorem sc__law_due : FnScope ["_law_text_here", "_law_lines", "_law_machines", "_law_store", "_law_k", "_law_steps", "_law_cap", "_law_start", "_law_refill", "_law_j", "_law_draw", "_law_long", "_law_back", "_law_row", "_law_word"] ["_law_text_here"] (defScope st__law_due) := ⟨rfl, rfl, rfl, by decide +kernel, rfl, by decide +kernel, by decide +kernel⟩
def m__law_due : M Fl := (mSeq (mPar 1 2 (mComp [13] (mItems (mMt "str" fSplit (mV 0) (mA1 (mC (.str "\n")) mA0))) (mGN 13) mYes (mMt "str" fSplit (mV 13) (mA1 (mC (.str " ")) mA0))) (mLst mA0))
      (mSeq (mAsg (mCall 1 mf__law_numbers (mA1 (mSl fSl (mOp2 fIx (mV 1) (mC (.int (0)))) (mO1 (mC (.int (1)))) mO0) mA0)) (mGN 3))
      (mSeq (mIf (mOr (mTst (mOp2 fNe (mOp2 fIx (mOp2 fIx (mV 1) (mC (.int (0)))) (mC (.int (0)))) (mC (.str "store")))) (mTst (mOp2 fIsN (mV 3) (mC .non)))) (mRet (mTup (mA1 (mC (.str "text")) (mA1 (mC (.int (0))) mA0)))) mSkip)
      (mSeq (mFor (mRng2 (mC (.int (1))) (mCB fLen (mA1 (mV 1) mA0))) (mGN 4) (mSeq (mAsg (mComp [14] (mItems (mSl fSl (mOp2 fIx (mV 1) (mV 4)) (mO1 (mC (.int (1)))) mO0)) (mGN 14) mYes (mCall 1 mf__law_numbers (mA1 (mMt "str" fSplit (mV 14) (mA1 (mC (.str ",")) mA0)) mA0))) (mGN 5))
      (mSeq (mIf (mOr (mTst (mOp2 fNe (mOp2 fIx (mOp2 fIx (mV 1) (mV 4)) (mC (.int (0)))) (mC (.str "machine")))) (mTst (mOp2 (fInD false) (mC .non) (mV 5)))) (mRet (mTup (mA1 (mC (.str "text")) (mA1 (mV 4) mA0)))) mSkip)
      (mExpr (mCh chApp (mV 2) (mA1 (mCB fTuple (mA1 (mV 5) mA0)) mA0))))))
      (mSeq (mAsg (mV 3) (mGT 3 (mGs1 (mGN 6) (mGs1 (mGN 7) (mGs1 (mGN 8) mGs0)))))
      (mSeq (mIf (mOr (mTst (mOp2 fLt (mV 6) (mC (.int (1))))) (mOr (mTst (mOp2 fGt (mV 7) (mV 6))) (mTst (mOp2 fGt (mV 8) (mC (.int (9))))))) (mRet (mTup (mA1 (mC (.str "store")) (mA1 (mC (.int (0))) mA0)))) mSkip)
      (mSeq (mFor (mRng1 (mCB fLen (mA1 (mV 2) mA0))) (mGN 4) (mSeq (mIf (mTst (mOp2 fEq (mV 4) (mC (.int (5))))) (mRet (mTup (mA1 (mC (.str "step")) (mA1 (mTup (mA1 (mC (.int (5))) (mA1 (mC (.int (0))) mA0))) mA0)))) mSkip)
      (mFor (mRng1 (mCB fLen (mA1 (mOp2 fIx (mV 2) (mV 4)) mA0))) (mGN 9) (mSeq (mAsg (mOp2 fIx (mOp2 fIx (mV 2) (mV 4)) (mV 9)) (mGT 3 (mGs1 (mGN 10) (mGs1 (mGN 11) (mGs1 (mGN 12) mGs0)))))
      (mIf (mOr (mTst (mOp2 fEq (mV 9) (mC (.int (6))))) (mOr (mTst (mOp2 fGt (mV 10) (mV 6))) (mOr (mNot (mTst (mChain fLe fLe (mC (.int (1))) (mV 11) (mC (.int (9)))))) (mTst (mOp2 fGt (mV 12) (mV 10)))))) (mRet (mTup (mA1 (mC (.str "step")) (mA1 (mTup (mA1 (mV 4) (mA1 (mV 9) mA0))) mA0)))) mSkip)))))
      (mRet (mTup (mA1 (mC (.str "told")) (mA1 (mTup (mA1 (mV 3) (mA1 (mCB fTuple (mA1 (mV 2) mA0)) mA0))) mA0)))))))))))
def mf__law_due : MF := mBody 15 m__law_due
theorem ok__law_due (T : Facts K mg) (B : TBs K mg base) : DOk P w K mg base 2 "_law_due" 1 ["_law_text_here"] mf__law_due := by
  refine DOk.mk2 (k := 1) T.d__law_due sc__law_due (fun F => FunD.bindsN (ps := ["_law_text_here"]) F fun _ _ _ _ _ _ us hl => match us, hl with | [_], _ => rfl) fun cdv A outer s H E _ hr tk => ?_
  have nd := sc__law_due.nd
  have hu := hr.units
  have hu1 := hu_of hr
  exact (b_cons (k_par (i := 1) (j := 2) rfl nd (s_comp (own := [("_law_row", 13)]) rfl nd (i_seq (s_bm PySem.F.plainAttrs_str PySem.F.slot_str_split PySem.F.type_str_split mt_split p_split (s_v 0) (a_1 s_str a_0))) (blkOk_by (N := ["_law_text_here", "_law_lines", "_law_machines", "_law_store", "_law_k", "_law_steps", "_law_cap", "_law_start", "_law_refill", "_law_j", "_law_draw", "_law_long", "_law_back", "_law_row", "_law_word"]) (sc := defScope st__law_due) (own := [("_law_row", 13)]) (by decide +kernel)) (fun _ _ _ _ _ => (g_name (i := 13) nd)) (fun _ _ _ _ _ => c_yes) (fun _ _ _ _ _ => (s_bm PySem.F.plainAttrs_str PySem.F.slot_str_split PySem.F.type_str_split mt_split p_split (s_v 13) (a_1 s_str a_0)))) (s_lst a_0))
      (b_cons (k_asg (s_callD tk (ok__law_numbers T B) (hr.mono (by decide)) (by rfl) (a_1 (s_sl o_sl p_sl (s_ix ix_seq p_ix (s_v 1) s_int (fun _ _ => rfl)) (o_some s_int) o_no) a_0)) (g_name (i := 3) nd))
      (b_cons (k_if (t_w (w_or (t_cmp (op_neD hu) p_ne (s_ix ix_seq p_ix (s_ix ix_seq p_ix (s_v 1) s_int (fun _ _ => rfl)) s_int (fun _ _ => rfl)) s_str (nomark _)) (w_or1 (t_cmp op_isN p_isN (s_v 3) s_non (nomark _))))) (b_one (k_ret (s_tup (a_1 s_str (a_1 s_int a_0))))) b_nil)
      (b_cons (k_for (passes_of rfl) rfl (i_rng2 (by rfl) T.m_range s_int (s_callB call_len p_len (by rfl) T.m_len (by decide +kernel) (a_1 (s_v 1) a_0))) (g_name (i := 4) nd) (b_cons (k_setComp (i := 5) (own := [("_law_word", 14)]) rfl nd (i_seq (s_sl o_sl p_sl (s_ix ix_seq p_ix (s_v 1) (s_v 4) (fun _ _ => rfl)) (o_some s_int) o_no)) (blkOk_by (N := ["_law_text_here", "_law_lines", "_law_machines", "_law_store", "_law_k", "_law_steps", "_law_cap", "_law_start", "_law_refill", "_law_j", "_law_draw", "_law_long", "_law_back", "_law_row", "_law_word"]) (sc := defScope st__law_due) (own := [("_law_word", 14)]) (by decide +kernel)) (fun _ _ _ _ _ => (g_name (i := 14) nd)) (fun _ _ _ _ _ => c_yes) (fun _ _ _ _ _ => (s_callD takes0 (ok__law_numbers T B) (hr.mono (by decide)) (by rfl) (a_1 (s_bm PySem.F.plainAttrs_str PySem.F.slot_str_split PySem.F.type_str_split mt_split p_split (s_v 14) (a_1 s_str a_0)) a_0))) (sw_true rfl rfl rfl (by decide +kernel)))
      (b_cons (k_if (t_w (w_or (t_cmp (op_neD hu) p_ne (s_ix ix_seq p_ix (s_ix ix_seq p_ix (s_v 1) (s_v 4) (fun _ _ => rfl)) s_int (fun _ _ => rfl)) s_str (nomark _)) (w_or1 (t_cmp (op_inD (hu65_of hr)) p_inD s_non (s_v 5) (by rfl))))) (b_one (k_ret (s_tup (a_1 s_str (a_1 (s_v 4) a_0))))) b_nil)
      (b_one (k_expr (s_ch PySem.F.plainAttrs_list PySem.F.slot_list_append PySem.F.type_list_append mt_append p_app (s_v 2) (a_1 (s_callTy call_tuple_of p_tuple (by rfl) T.m_tuple (by decide +kernel) (a_1 (s_v 5) a_0)) a_0)))))))
      (b_cons (k_asg (s_v 3) (g_tup (n := 3) rfl (gs_1 (g_name (i := 6) nd) (gs_1 (g_name (i := 7) nd) (gs_1 (g_name (i := 8) nd) gs_0)))))
      (b_cons (k_if (t_w (w_or (t_cmp op_lt p_lt (s_v 6) s_int (nomark _)) (w_or (t_cmp op_gt p_gt (s_v 7) (s_v 6) (nomark _)) (w_or1 (t_cmp op_gt p_gt (s_v 8) s_int (nomark _)))))) (b_one (k_ret (s_tup (a_1 s_str (a_1 s_int a_0))))) b_nil)
      (b_cons (k_for (passes_of rfl) rfl (i_rng1 (by rfl) T.m_range (s_callB call_len p_len (by rfl) T.m_len (by decide +kernel) (a_1 (s_v 2) a_0))) (g_name (i := 4) nd) (b_cons (k_if (t_cmp (op_eqD hu) p_eq (s_v 4) s_int (nomark _)) (b_one (k_ret (s_tup (a_1 s_str (a_1 (s_tup (a_1 s_int (a_1 s_int a_0))) a_0))))) b_nil)
      (b_one (k_for (passes_of rfl) rfl (i_rng1 (by rfl) T.m_range (s_callB call_len p_len (by rfl) T.m_len (by decide +kernel) (a_1 (s_ix ix_seq p_ix (s_v 2) (s_v 4) (fun _ _ => rfl)) a_0))) (g_name (i := 9) nd) (b_cons (k_asg (s_ix ix_seq p_ix (s_ix ix_seq p_ix (s_v 2) (s_v 4) (fun _ _ => rfl)) (s_v 9) (fun _ _ => rfl)) (g_tup (n := 3) rfl (gs_1 (g_name (i := 10) nd) (gs_1 (g_name (i := 11) nd) (gs_1 (g_name (i := 12) nd) gs_0)))))
      (b_one (k_if (t_w (w_or (t_cmp (op_eqD hu) p_eq (s_v 9) s_int (nomark _)) (w_or (t_cmp op_gt p_gt (s_v 10) (s_v 6) (nomark _)) (w_or (t_not (t_chain op_le op_le p_le p_le s_int (s_v 11) s_int)) (w_or1 (t_cmp op_gt p_gt (s_v 12) (s_v 10) (nomark _))))))) (b_one (k_ret (s_tup (a_1 s_str (a_1 (s_tup (a_1 (s_v 4) (a_1 (s_v 9) a_0))) a_0))))) b_nil)))))))
      (b_one (k_ret (s_tup (a_1 s_str (a_1 (s_tup (a_1 (s_v 3) (a_1 (s_callTy call_tuple_of p_tuple (by rfl) T.m_tuple (by decide +kernel) (a_1 (s_v 2) a_0)) a_0))) a_0))))))))))))

theorem sc__law_kind : FnScope ["_law_call", "e", "_law_kinds"] ["_law_call"] (defScope st__law_kind) := ⟨rfl, rfl, rfl, by decide +kernel, rfl, by decide +kernel, by decide +kernel⟩
theorem bd__law_kind {f : Addr} {fd : FuncData} (F : FunD K "_law_kind" "_law_kind" (defArgs st__law_kind) (defBody st__law_kind) (defScope st__law_kind) [] [] f fd) : L2.Binds K fd ["_law_call"] [] := (fun F => FunD.bindsN (ps := ["_law_call"]) F fun _ _ _ _ _ _ us hl => match us, hl with | [_], _ => rfl) F
theorem kg (T : Facts K mg) {A : Around} {stack : List Env} : GivesK P w K mg base A stack (defScope st__law_kind) (defBody st__law_kind) := kind_gives T.kx (by rfl) (by rfl) fun g cdg s H C hr hC a oe d pn hz hf => by
  have nd := sc__law_kind.nd
  have hu := hr.units
  have hu1 := hu_of hr
  have hu65 := hu65_of hr
  exact (b_cons (k_asg (s_lst (a_1 (s_isEC (i := 1) T.kx hC (by decide) hz hf (by rfl) (by decide) (by rfl) T.m_isinstance (by decide +kernel) rfl (.inl rfl) (by decide) (by decide)) (a_1 (s_isEC (i := 1) T.kx hC (by decide) hz hf (by rfl) (by decide) (by rfl) T.m_isinstance (by decide +kernel) rfl (.inl rfl) (by decide) (by decide)) (a_1 (s_isEC (i := 1) T.kx hC (by decide) hz hf (by rfl) (by decide) (by rfl) T.m_isinstance (by decide +kernel) rfl (.inl rfl) (by decide) (by decide)) (a_1 (s_isEC (i := 1) T.kx hC (by decide) hz hf (by rfl) (by decide) (by rfl) T.m_isinstance (by decide +kernel) rfl (.inl rfl) (by decide) (by decide)) a_0))))) (g_name (i := 2) nd))
      (b_cons (k_expr (s_ch PySem.F.plainAttrs_list PySem.F.slot_list_extend PySem.F.type_list_extend mt_extend p_ext (s_v 2) (a_1 (s_lst (a_1 (s_isEC (i := 1) T.kx hC (by decide) hz hf (by rfl) (by decide) (by rfl) T.m_isinstance (by decide +kernel) rfl (.inl rfl) (by decide) (by decide)) (a_1 (s_isEC (i := 1) T.kx hC (by decide) hz hf (by rfl) (by decide) (by rfl) T.m_isinstance (by decide +kernel) rfl (.inl rfl) (by decide) (by decide)) (a_1 (s_isEC (i := 1) T.kx hC (by decide) hz hf (by rfl) (by decide) (by rfl) T.m_isinstance (by decide +kernel) rfl (.inl rfl) (by decide) (by decide)) (a_1 (s_isEC (i := 1) T.kx hC (by decide) hz hf (by rfl) (by decide) (by rfl) T.m_isinstance (by decide +kernel) rfl (.inl rfl) (by decide) (by decide)) a_0))))) a_0)))
      (b_cons (k_expr (s_ch PySem.F.plainAttrs_list PySem.F.slot_list_append PySem.F.type_list_append mt_append p_app (s_v 2) (a_1 (s_isEC (i := 1) T.kx hC (by decide) hz hf (by rfl) (by decide) (by rfl) T.m_isinstance (by decide +kernel) rfl (.inl rfl) (by decide) (by decide)) a_0)))
      (b_cons (k_if (t_w (w_or (t_cmp (op_neD hu) p_ne (s_bm PySem.F.plainAttrs_list PySem.F.slot_list_count PySem.F.type_list_count (mt_cntD hu65) p_cnt (s_v 2) (a_1 s_bl a_0)) s_int (nomark _)) (w_or1 (t_not (t_val (s_isEV (i := 1) T.kx hC hz hf (by rfl) T.m_ValueError (by decide +kernel) (by rfl) T.m_isinstance (by decide +kernel) rfl (.inl rfl) (by decide) (by decide))))))) (b_one (k_ret (s_tup (a_1 s_str (a_1 s_int a_0))))) b_nil)
      (b_cons (k_if (t_val (s_ix ix_seq p_ix (s_v 2) s_int (fun _ _ => rfl))) (b_one (k_ret (s_tup (a_1 s_str (a_1 (s_tup (a_1 (s_xfC (i := 1) T.kx hC (by decide) hz hf (by rfl) rfl (.inl rfl) (by decide) (by decide)) (a_1 (s_xfC (i := 1) T.kx hC (by decide) hz hf (by rfl) rfl (.inl rfl) (by decide) (by decide)) a_0))) a_0))))) b_nil)
      (b_cons (k_if (t_w (w_or (t_val (s_ix ix_seq p_ix (s_v 2) s_int (fun _ _ => rfl))) (w_or1 (t_val (s_ix ix_seq p_ix (s_v 2) s_int (fun _ _ => rfl)))))) (b_one (k_ret (s_if (t_val (s_ix ix_seq p_ix (s_v 2) s_int (fun _ _ => rfl))) (s_tup (a_1 s_str (a_1 (s_xfC (i := 1) T.kx hC (by decide) hz hf (by rfl) rfl (.inl rfl) (by decide) (by decide)) a_0))) (s_tup (a_1 s_str (a_1 (s_xfC (i := 1) T.kx hC (by decide) hz hf (by rfl) rfl (.inl rfl) (by decide) (by decide)) a_0)))))) b_nil)
      (b_cons (k_if (t_w (w_or (t_val (s_ix ix_seq p_ix (s_v 2) s_int (fun _ _ => rfl))) (w_or1 (t_val (s_ix ix_seq p_ix (s_v 2) s_int (fun _ _ => rfl)))))) (b_one (k_ret (s_tup (a_1 (s_if (t_val (s_ix ix_seq p_ix (s_v 2) s_int (fun _ _ => rfl))) s_str s_str) (a_1 (s_xfC (i := 1) T.kx hC (by decide) hz hf (by rfl) rfl (.inl rfl) (by decide) (by decide)) a_0))))) b_nil)
      (b_one (k_ret (s_tup (a_1 (s_ix ix_seq p_ix (s_lst (a_1 s_str (a_1 s_str (a_1 s_str (a_1 s_str a_0))))) (s_bm PySem.F.plainAttrs_list PySem.F.slot_list_index PySem.F.type_list_index (mt_indexD hu65) p_idx (s_sl o_sl p_sl (s_v 2) (o_some s_int) o_no) (a_1 s_bl a_0)) (fun _ _ => rfl)) (a_1 s_int a_0))))))))))))

theorem sc__law_mix : FnScope ["_law_script", "_law_seed", "_law_mixed", "_law_cell"] ["_law_script", "_law_seed"] (defScope st__law_mix) := ⟨rfl, rfl, rfl, by decide +kernel, rfl, by decide +kernel, by decide +kernel⟩
def m__law_mix : M Fl := (mSeq (mAsg (mV 1) (mGN 2))
      (mSeq (mFor (mItems (mV 0)) (mGN 3) (mAsg (mOp2 fMod (mOp2 fAdd (mOp2 fAdd (mOp2 fMul (mV 2) (mC (.int (48271)))) (mOp2 fMod (mV 3) (mC (.int (2147483629))))) (mC (.int (1)))) (mC (.int (2147483647)))) (mGN 2)))
      (mRet (mBox (mLst (mA1 (mV 2) (mA1 (mBox (mCB fList (mA1 (mV 0) mA0))) (mA1 (mC (.int (0))) mA0))))))))
def mf__law_mix : MF := mBody 4 m__law_mix
theorem ok__law_mix (T : Facts K mg) (B : TBs K mg base) : DOk P w K mg base 1 "_law_mix" 2 ["_law_script", "_law_seed"] mf__law_mix := by
  refine DOk.mk2 (k := 0) T.d__law_mix sc__law_mix (fun F => FunD.bindsN (ps := ["_law_script", "_law_seed"]) F fun _ _ _ _ _ _ us hl => match us, hl with | [_, _], _ => rfl) fun cdv A outer s H E _ hr tk => ?_
  have nd := sc__law_mix.nd
  have hu := hr.units
  have hu1 := hu_of hr
  exact (b_cons (k_asg (s_v 1) (g_name (i := 2) nd))
      (b_cons (k_for (passes_of rfl) rfl (i_seq (s_v 0)) (g_name (i := 3) nd) (b_one (k_asg (s_op op_modN p_mod (s_op o_add p_add (s_op o_add p_add (s_op o_mul p_mul (s_v 2) s_int) (s_op op_modN p_mod (s_v 3) s_int)) s_int) s_int) (g_name (i := 2) nd))))
      (b_one (k_ret (s_box (s_lst (a_1 (s_v 2) (a_1 (s_box (s_callTy call_list_of p_list (by rfl) T.m_list (by decide +kernel) (a_1 (s_v 0) a_0))) (a_1 s_int a_0)))))))))

theorem sc__law_next : FnScope ["_law_h", "_law_many", "_law_cell"] ["_law_h", "_law_many"] (defScope st__law_next) := ⟨rfl, rfl, rfl, by decide +kernel, rfl, by decide +kernel, by decide +kernel⟩
def m__law_next : M Fl := (mSeq (mAsg (mOp2 fIx (mOp2 fAdd (mOp2 fIx (mV 0) (mC (.int (1)))) (mLst (mA1 (mC (.int (0))) mA0))) (mOp2 fMod (mOp2 fIx (mV 0) (mC (.int (2)))) (mCB fMax2 (mA1 (mC (.int (1))) (mA1 (mCB fLen (mA1 (mOp2 fIx (mV 0) (mC (.int (1)))) mA0)) mA0))))) (mGN 2))
      (mSeq (mIf (mTst (mOp2 fGe (mV 2) (mOp2 fPow (mC (.int (10))) (mC (.int (18)))))) (mSeq (mAsg (mOp2 fDiv (mV 2) (mV 1)) (mGSub (mOp2 fIx (mV 0) (mC (.int (1)))) (mOp2 fMod (mOp2 fIx (mV 0) (mC (.int (2)))) (mCB fLen (mA1 (mOp2 fIx (mV 0) (mC (.int (1)))) mA0)))))
      (mRet (mOp2 fMod (mV 2) (mV 1)))) mSkip)
      (mSeq (mAsg (mOp2 fMod (mOp2 fAdd (mOp2 fAdd (mOp2 fMul (mOp2 fIx (mV 0) (mC (.int (0)))) (mC (.int (48271)))) (mOp2 fMul (mV 2) (mC (.int (69621))))) (mC (.int (11)))) (mC (.int (2147483647)))) (mGSub (mV 0) (mC (.int (0)))))
      (mSeq (mAsg (mOp2 fAdd (mOp2 fIx (mV 0) (mC (.int (2)))) (mC (.int (1)))) (mGSub (mV 0) (mC (.int (2)))))
      (mRet (mOp2 fMod (mOp2 fDiv (mOp2 fIx (mV 0) (mC (.int (0)))) (mC (.int (7)))) (mV 1)))))))
def mf__law_next : MF := mBody 3 m__law_next
theorem ok__law_next (T : Facts K mg) (B : TBs K mg base) : DOk P w K mg base 1 "_law_next" 2 ["_law_h", "_law_many"] mf__law_next := by
  refine DOk.mk2 (k := 0) T.d__law_next sc__law_next (fun F => FunD.bindsN (ps := ["_law_h", "_law_many"]) F fun _ _ _ _ _ _ us hl => match us, hl with | [_, _], _ => rfl) fun cdv A outer s H E _ hr tk => ?_
  have nd := sc__law_next.nd
  have hu := hr.units
  have hu1 := hu_of hr
  exact (b_cons (k_asg (s_ix ix_seq p_ix (s_op o_add p_add (s_ix ix_seq p_ix (s_v 0) s_int (fun _ _ => rfl)) (s_lst (a_1 s_int a_0))) (s_op op_modN p_mod (s_ix ix_seq p_ix (s_v 0) s_int (fun _ _ => rfl)) (s_callB (call_max2 rfl) p_max2 (by rfl) T.m_max (by decide +kernel) (a_1 s_int (a_1 (s_callB call_len p_len (by rfl) T.m_len (by decide +kernel) (a_1 (s_ix ix_seq p_ix (s_v 0) s_int (fun _ _ => rfl)) a_0)) a_0)))) (fun _ _ => rfl)) (g_name (i := 2) nd))
      (b_cons (k_if (t_cmp op_ge p_ge (s_v 2) (s_op op_pow p_pow s_int s_int) (nomark _)) (b_cons (k_asg (s_op op_fdivN p_div (s_v 2) (s_v 1)) (g_sub (s_ix ix_seq p_ix (s_v 0) s_int (fun _ _ => rfl)) (s_op op_modN p_mod (s_ix ix_seq p_ix (s_v 0) s_int (fun _ _ => rfl)) (s_callB call_len p_len (by rfl) T.m_len (by decide +kernel) (a_1 (s_ix ix_seq p_ix (s_v 0) s_int (fun _ _ => rfl)) a_0)))))
      (b_one (k_ret (s_op op_modN p_mod (s_v 2) (s_v 1))))) b_nil)
      (b_cons (k_asg (s_op op_modN p_mod (s_op o_add p_add (s_op o_add p_add (s_op o_mul p_mul (s_ix ix_seq p_ix (s_v 0) s_int (fun _ _ => rfl)) s_int) (s_op o_mul p_mul (s_v 2) s_int)) s_int) s_int) (g_sub (s_v 0) s_int))
      (b_cons (k_asg (s_op o_add p_add (s_ix ix_seq p_ix (s_v 0) s_int (fun _ _ => rfl)) s_int) (g_sub (s_v 0) s_int))
      (b_one (k_ret (s_op op_modN p_mod (s_op op_fdivN p_div (s_ix ix_seq p_ix (s_v 0) s_int (fun _ _ => rfl)) s_int) (s_v 1))))))))

theorem sc__law_text : FnScope ["_law_world_here", "_law_rows", "_law_steps", "_law_part", "_law_step"] ["_law_world_here"] (defScope st__law_text) := ⟨rfl, rfl, rfl, by decide +kernel, rfl, by decide +kernel, by decide +kernel⟩
def m__law_text : M Fl := (mSeq (mAsg (mLst (mA1 (mOp2 fAdd (mC (.str "store ")) (mMt "str" fJoin (mC (.str " ")) (mA1 (mComp [3] (mItems (mOp2 fIx (mV 0) (mC (.int (0))))) (mGN 3) mYes (mCB fStr (mA1 (mV 3) mA0))) mA0))) mA0)) (mGN 1))
      (mSeq (mFor (mItems (mOp2 fIx (mV 0) (mC (.int (1))))) (mGN 2) (mExpr (mCh chApp (mV 1) (mA1 (mMt "str" fJoin (mC (.str " ")) (mA1 (mOp2 fAdd (mLst (mA1 (mC (.str "machine")) mA0)) (mComp [4] (mItems (mV 2)) (mGN 4) mYes (mMt "str" fJoin (mC (.str ",")) (mA1 (mComp [3] (mItems (mV 4)) (mGN 3) mYes (mCB fStr (mA1 (mV 3) mA0))) mA0)))) mA0)) mA0))))
      (mRet (mMt "str" fJoin (mC (.str "\n")) (mA1 (mV 1) mA0)))))
def mf__law_text : MF := mBody 5 m__law_text
theorem ok__law_text (T : Facts K mg) (B : TBs K mg base) : DOk P w K mg base 1 "_law_text" 1 ["_law_world_here"] mf__law_text := by
  refine DOk.mk2 (k := 0) T.d__law_text sc__law_text (fun F => FunD.bindsN (ps := ["_law_world_here"]) F fun _ _ _ _ _ _ us hl => match us, hl with | [_], _ => rfl) fun cdv A outer s H E _ hr tk => ?_
  have nd := sc__law_text.nd
  have hu := hr.units
  have hu1 := hu_of hr
  exact (b_cons (k_asg (s_lst (a_1 (s_op o_add p_add s_str (s_bm PySem.F.plainAttrs_str PySem.F.slot_str_join PySem.F.type_str_join mt_join p_join s_str (a_1 (s_comp (own := [("_law_part", 3)]) rfl nd (i_seq (s_ix ix_seq p_ix (s_v 0) s_int (fun _ _ => rfl))) (blkOk_by (N := ["_law_world_here", "_law_rows", "_law_steps", "_law_part", "_law_step"]) (sc := defScope st__law_text) (own := [("_law_part", 3)]) (by decide +kernel)) (fun _ _ _ _ _ => (g_name (i := 3) nd)) (fun _ _ _ _ _ => c_yes) (fun _ _ _ _ _ => (s_callTy call_str_int p_str (by rfl) T.m_str (by decide +kernel) (a_1 (s_v 3) a_0)))) a_0))) a_0)) (g_name (i := 1) nd))
      (b_cons (k_for (passes_of rfl) rfl (i_seq (s_ix ix_seq p_ix (s_v 0) s_int (fun _ _ => rfl))) (g_name (i := 2) nd) (b_one (k_expr (s_ch PySem.F.plainAttrs_list PySem.F.slot_list_append PySem.F.type_list_append mt_append p_app (s_v 1) (a_1 (s_bm PySem.F.plainAttrs_str PySem.F.slot_str_join PySem.F.type_str_join mt_join p_join s_str (a_1 (s_op o_add p_add (s_lst (a_1 s_str a_0)) (s_comp (own := [("_law_step", 4)]) rfl nd (i_seq (s_v 2)) (blkOk_by (N := ["_law_world_here", "_law_rows", "_law_steps", "_law_part", "_law_step"]) (sc := defScope st__law_text) (own := [("_law_step", 4)]) (by decide +kernel)) (fun _ _ _ _ _ => (g_name (i := 4) nd)) (fun _ _ _ _ _ => c_yes) (fun _ _ _ _ _ => (s_bm PySem.F.plainAttrs_str PySem.F.slot_str_join PySem.F.type_str_join mt_join p_join s_str (a_1 (s_comp (own := [("_law_part", 3)]) rfl nd (i_seq (s_v 4)) (blkOk_by (N := ["_law_world_here", "_law_rows", "_law_steps", "_law_part", "_law_step"]) (own := [("_law_part", 3)]) (by kernel_rfl)) (fun _ _ _ _ _ => (g_name (i := 3) nd)) (fun _ _ _ _ _ => c_yes) (fun _ _ _ _ _ => (s_callTy call_str_int p_str (by rfl) T.m_str (by decide +kernel) (a_1 (s_v 3) a_0)))) a_0))))) a_0)) a_0)))))
      (b_one (k_ret (s_bm PySem.F.plainAttrs_str PySem.F.slot_str_join PySem.F.type_str_join mt_join p_join s_str (a_1 (s_v 1) a_0))))))

theorem sc__law_world : FnScope ["_law_h", "_law_most", "_law_cap", "_law_store", "_law_machines", "_law_k", "_law_steps", "_law_time", "_law_draw", "_law_back"] ["_law_h", "_law_most", "_law_cap"] (defScope st__law_world) := ⟨rfl, rfl, rfl, by decide +kernel, rfl, by decide +kernel, by decide +kernel⟩
def m__law_world : M Fl := (mSeq (mAsg (mTup (mA1 (mOp2 fAdd (mC (.int (1))) (mCall 2 mf__law_next (mA1 (mV 0) (mA1 (mV 2) mA0)))) (mA1 (mC (.int (0))) (mA1 (mOp2 fIx (mLst (mA1 (mC (.int (0))) (mA1 (mC (.int (1))) (mA1 (mC (.int (1))) (mA1 (mC (.int (2))) (mA1 (mCall 2 mf__law_next (mA1 (mV 0) (mA1 (mC (.int (10))) mA0))) mA0)))))) (mCall 2 mf__law_next (mA1 (mV 0) (mA1 (mC (.int (5))) mA0)))) mA0)))) (mGN 3))
      (mSeq (mAsg (mTup (mA1 (mOp2 fIx (mV 3) (mC (.int (0)))) (mA1 (mCall 2 mf__law_next (mA1 (mV 0) (mA1 (mOp2 fAdd (mOp2 fIx (mV 3) (mC (.int (0)))) (mC (.int (1)))) mA0))) (mA1 (mOp2 fIx (mV 3) (mC (.int (2)))) mA0)))) (mGN 3))
      (mSeq (mAsg (mLst mA0) (mGN 4))
      (mSeq (mFor (mRng1 (mCall 2 mf__law_next (mA1 (mV 0) (mA1 (mOp2 fAdd (mV 1) (mC (.int (1)))) mA0)))) (mGN 5) (mSeq (mAsg (mLst mA0) (mGN 6))
      (mSeq (mFor (mRng1 (mCall 2 mf__law_next (mA1 (mV 0) (mA1 (mC (.int (5))) mA0)))) (mGN 7) (mSeq (mAsg (mIfE (mTst (mOp2 fEq (mCall 2 mf__law_next (mA1 (mV 0) (mA1 (mC (.int (4))) mA0))) (mC (.int (0))))) (mCall 2 mf__law_next (mA1 (mV 0) (mA1 (mOp2 fAdd (mOp2 fIx (mV 3) (mC (.int (0)))) (mC (.int (1)))) mA0))) (mCall 2 mf__law_next (mA1 (mV 0) (mA1 (mOp2 fAdd (mCB fMin2 (mA1 (mC (.int (4))) (mA1 (mOp2 fIx (mV 3) (mC (.int (0)))) mA0))) (mC (.int (1)))) mA0)))) (mGN 8))
      (mSeq (mAsg (mOp2 fIx (mLst (mA1 (mC (.int (0))) (mA1 (mV 8) (mA1 (mCall 2 mf__law_next (mA1 (mV 0) (mA1 (mOp2 fAdd (mV 8) (mC (.int (1)))) mA0))) mA0)))) (mCall 2 mf__law_next (mA1 (mV 0) (mA1 (mC (.int (3))) mA0)))) (mGN 9))
      (mExpr (mCh chApp (mV 6) (mA1 (mTup (mA1 (mV 8) (mA1 (mOp2 fAdd (mC (.int (1))) (mCall 2 mf__law_next (mA1 (mV 0) (mA1 (mOp2 fIx (mLst (mA1 (mC (.int (3))) (mA1 (mC (.int (9))) mA0))) (mOp2 fDiv (mCall 2 mf__law_next (mA1 (mV 0) (mA1 (mC (.int (4))) mA0))) (mC (.int (3))))) mA0)))) (mA1 (mV 9) mA0)))) mA0))))))
      (mExpr (mCh chApp (mV 4) (mA1 (mCB fTuple (mA1 (mV 6) mA0)) mA0))))))
      (mRet (mTup (mA1 (mV 3) (mA1 (mCB fTuple (mA1 (mV 4) mA0)) mA0))))))))
def mf__law_world : MF := mBody 10 m__law_world
theorem ok__law_world (T : Facts K mg) (B : TBs K mg base) : DOk P w K mg base 2 "_law_world" 3 ["_law_h", "_law_most", "_law_cap"] mf__law_world := by
  refine DOk.mk2 (k := 1) T.d__law_world sc__law_world (fun F => FunD.bindsN (ps := ["_law_h", "_law_most", "_law_cap"]) F fun _ _ _ _ _ _ us hl => match us, hl with | [_, _, _], _ => rfl) fun cdv A outer s H E _ hr tk => ?_
  have nd := sc__law_world.nd
  have hu := hr.units
  have hu1 := hu_of hr
  exact (b_cons (k_asg (s_tup (a_1 (s_op o_add p_add s_int (s_callD tk (ok__law_next T B) (hr.mono (by decide)) (by rfl) (a_1 (s_v 0) (a_1 (s_v 2) a_0)))) (a_1 s_int (a_1 (s_ix ix_seq p_ix (s_lst (a_1 s_int (a_1 s_int (a_1 s_int (a_1 s_int (a_1 (s_callD tk (ok__law_next T B) (hr.mono (by decide)) (by rfl) (a_1 (s_v 0) (a_1 s_int a_0))) a_0)))))) (s_callD tk (ok__law_next T B) (hr.mono (by decide)) (by rfl) (a_1 (s_v 0) (a_1 s_int a_0))) (fun _ _ => rfl)) a_0)))) (g_name (i := 3) nd))
      (b_cons (k_asg (s_tup (a_1 (s_ix ix_seq p_ix (s_v 3) s_int (fun _ _ => rfl)) (a_1 (s_callD tk (ok__law_next T B) (hr.mono (by decide)) (by rfl) (a_1 (s_v 0) (a_1 (s_op o_add p_add (s_ix ix_seq p_ix (s_v 3) s_int (fun _ _ => rfl)) s_int) a_0))) (a_1 (s_ix ix_seq p_ix (s_v 3) s_int (fun _ _ => rfl)) a_0)))) (g_name (i := 3) nd))
      (b_cons (k_asg (s_lst a_0) (g_name (i := 4) nd))
      (b_cons (k_for (passes_of rfl) rfl (i_rng1 (by rfl) T.m_range (s_callD tk (ok__law_next T B) (hr.mono (by decide)) (by rfl) (a_1 (s_v 0) (a_1 (s_op o_add p_add (s_v 1) s_int) a_0)))) (g_name (i := 5) nd) (b_cons (k_asg (s_lst a_0) (g_name (i := 6) nd))
      (b_cons (k_for (passes_of rfl) rfl (i_rng1 (by rfl) T.m_range (s_callD tk (ok__law_next T B) (hr.mono (by decide)) (by rfl) (a_1 (s_v 0) (a_1 s_int a_0)))) (g_name (i := 7) nd) (b_cons (k_asg (s_if (t_cmp (op_eqD hu) p_eq (s_callD tk (ok__law_next T B) (hr.mono (by decide)) (by rfl) (a_1 (s_v 0) (a_1 s_int a_0))) s_int (nomark _)) (s_callD tk (ok__law_next T B) (hr.mono (by decide)) (by rfl) (a_1 (s_v 0) (a_1 (s_op o_add p_add (s_ix ix_seq p_ix (s_v 3) s_int (fun _ _ => rfl)) s_int) a_0))) (s_callD tk (ok__law_next T B) (hr.mono (by decide)) (by rfl) (a_1 (s_v 0) (a_1 (s_op o_add p_add (s_callB (call_min2 rfl) p_min2 (by rfl) T.m_min (by decide +kernel) (a_1 s_int (a_1 (s_ix ix_seq p_ix (s_v 3) s_int (fun _ _ => rfl)) a_0))) s_int) a_0)))) (g_name (i := 8) nd))
      (b_cons (k_asg (s_ix ix_seq p_ix (s_lst (a_1 s_int (a_1 (s_v 8) (a_1 (s_callD tk (ok__law_next T B) (hr.mono (by decide)) (by rfl) (a_1 (s_v 0) (a_1 (s_op o_add p_add (s_v 8) s_int) a_0))) a_0)))) (s_callD tk (ok__law_next T B) (hr.mono (by decide)) (by rfl) (a_1 (s_v 0) (a_1 s_int a_0))) (fun _ _ => rfl)) (g_name (i := 9) nd))
      (b_one (k_expr (s_ch PySem.F.plainAttrs_list PySem.F.slot_list_append PySem.F.type_list_append mt_append p_app (s_v 6) (a_1 (s_tup (a_1 (s_v 8) (a_1 (s_op o_add p_add s_int (s_callD tk (ok__law_next T B) (hr.mono (by decide)) (by rfl) (a_1 (s_v 0) (a_1 (s_ix ix_seq p_ix (s_lst (a_1 s_int (a_1 s_int a_0))) (s_op op_fdivN p_div (s_callD tk (ok__law_next T B) (hr.mono (by decide)) (by rfl) (a_1 (s_v 0) (a_1 s_int a_0))) s_int) (fun _ _ => rfl)) a_0)))) (a_1 (s_v 9) a_0)))) a_0)))))))
      (b_one (k_expr (s_ch PySem.F.plainAttrs_list PySem.F.slot_list_append PySem.F.type_list_append mt_append p_app (s_v 4) (a_1 (s_callTy call_tuple_of p_tuple (by rfl) T.m_tuple (by decide +kernel) (a_1 (s_v 6) a_0)) a_0)))))))
      (b_one (k_ret (s_tup (a_1 (s_v 3) (a_1 (s_callTy call_tuple_of p_tuple (by rfl) T.m_tuple (by decide +kernel) (a_1 (s_v 4) a_0)) a_0)))))))))

theorem sc_need_steps : FnScope ["cap", "machine", "steps", "number", "step", "draw", "long", "back"] ["cap", "machine", "steps"] (defScope st_need_steps) := ⟨rfl, rfl, rfl, by decide +kernel, rfl, by decide +kernel, by decide +kernel⟩
def m_need_steps : M Fl := (mFor (mEnum (mV 2)) (mGT 2 (mGs1 (mGN 3) (mGs1 (mGN 4) mGs0))) (mSeq (mIf (mOr (mTst (mOp2 fEq (mV 3) (mC (.int (6))))) (mTst (mOp2 fNe (mCB fLen (mA1 (mV 4) mA0)) (mC (.int (3)))))) (mRaiseK "BadStep" ["machine", "step"] (mA1 (mV 1) (mA1 (mV 3) mA0))) mSkip)
      (mSeq (mAsg (mV 4) (mGT 3 (mGs1 (mGN 5) (mGs1 (mGN 6) (mGs1 (mGN 7) mGs0)))))
      (mIf (mOr (mNot (mTst (mChain fLe fLe (mC (.int (0))) (mV 5) (mV 0)))) (mOr (mNot (mTst (mChain fLe fLe (mC (.int (1))) (mV 6) (mC (.int (9)))))) (mNot (mTst (mChain fLe fLe (mC (.int (0))) (mV 7) (mV 5)))))) (mRaiseK "BadStep" ["machine", "step"] (mA1 (mV 1) (mA1 (mV 3) mA0))) mSkip))))
def mf_need_steps : MF := mBody 8 m_need_steps
theorem ok_need_steps (T : Facts K mg) (B : TBs K mg base) : DOk P w K mg base 3 "need_steps" 3 ["cap", "machine", "steps"] mf_need_steps := by
  refine DOk.mk2 (k := 2) T.d_need_steps sc_need_steps (fun F => FunD.bindsN (ps := ["cap", "machine", "steps"]) F fun _ _ _ _ _ _ us hl => match us, hl with | [_, _, _], _ => rfl) fun cdv A outer s H E _ hr tk => ?_
  have nd := sc_need_steps.nd
  have hu := hr.units
  have hu1 := hu_of hr
  exact (b_one (k_for (passes_of rfl) rfl (i_enum (by rfl) T.m_enumerate (s_v 2)) (g_tup (n := 2) rfl (gs_1 (g_name (i := 3) nd) (gs_1 (g_name (i := 4) nd) gs_0))) (b_cons (k_if (t_w (w_or (t_cmp (op_eqD hu) p_eq (s_v 3) (s_gi (by rfl) T.c_MOST_STEPS) (nomark _)) (w_or1 (t_cmp (op_neD hu) p_ne (s_callB call_len p_len (by rfl) T.m_len (by decide +kernel) (a_1 (s_v 4) a_0)) s_int (nomark _))))) (b_one (k_raiseK rfl tk (ok_x_BadStep T) (hr.mono (by decide)) (by rfl) (kw_1 (s_v 1) (kw_1 (s_v 3) kw_0)))) b_nil)
      (b_cons (k_asg (s_v 4) (g_tup (n := 3) rfl (gs_1 (g_name (i := 5) nd) (gs_1 (g_name (i := 6) nd) (gs_1 (g_name (i := 7) nd) gs_0)))))
      (b_one (k_if (t_w (w_or (t_not (t_chain op_le op_le p_le p_le s_int (s_v 5) (s_v 0))) (w_or (t_not (t_chain op_le op_le p_le p_le s_int (s_v 6) (s_gi (by rfl) T.c_MOST_LONG))) (w_or1 (t_not (t_chain op_le op_le p_le p_le s_int (s_v 7) (s_v 5))))))) (b_one (k_raiseK rfl tk (ok_x_BadStep T) (hr.mono (by decide)) (by rfl) (kw_1 (s_v 1) (kw_1 (s_v 3) kw_0)))) b_nil))))))

theorem sc_need_store : FnScope ["store", "cap", "start", "refill"] ["store"] (defScope st_need_store) := ⟨rfl, rfl, rfl, by decide +kernel, rfl, by decide +kernel, by decide +kernel⟩
def m_need_store : M Fl := (mSeq (mIf (mTst (mOp2 fNe (mCB fLen (mA1 (mV 0) mA0)) (mC (.int (3))))) (mRaise "BadStore") mSkip)
      (mSeq (mAsg (mV 0) (mGT 3 (mGs1 (mGN 1) (mGs1 (mGN 2) (mGs1 (mGN 3) mGs0)))))
      (mIf (mOr (mNot (mTst (mChain fLe fLe (mC (.int (1))) (mV 1) (mC (.int (99)))))) (mOr (mNot (mTst (mChain fLe fLe (mC (.int (0))) (mV 2) (mV 1)))) (mNot (mTst (mChain fLe fLe (mC (.int (0))) (mV 3) (mC (.int (9)))))))) (mRaise "BadStore") mSkip)))
def mf_need_store : MF := mBody 4 m_need_store
theorem ok_need_store (T : Facts K mg) (B : TBs K mg base) : DOk P w K mg base 1 "need_store" 1 ["store"] mf_need_store := by
  refine DOk.mk2 (k := 0) T.d_need_store sc_need_store (fun F => FunD.bindsN (ps := ["store"]) F fun _ _ _ _ _ _ us hl => match us, hl with | [_], _ => rfl) fun cdv A outer s H E _ hr tk => ?_
  have nd := sc_need_store.nd
  have hu := hr.units
  have hu1 := hu_of hr
  exact (b_cons (k_if (t_cmp (op_neD hu) p_ne (s_callB call_len p_len (by rfl) T.m_len (by decide +kernel) (a_1 (s_v 0) a_0)) s_int (nomark _)) (b_one (k_raiseT rfl tk T.r_BadStore (by rfl))) b_nil)
      (b_cons (k_asg (s_v 0) (g_tup (n := 3) rfl (gs_1 (g_name (i := 1) nd) (gs_1 (g_name (i := 2) nd) (gs_1 (g_name (i := 3) nd) gs_0)))))
      (b_one (k_if (t_w (w_or (t_not (t_chain op_le op_le p_le p_le s_int (s_v 1) (s_gi (by rfl) T.c_MOST_CAP))) (w_or (t_not (t_chain op_le op_le p_le p_le s_int (s_v 2) (s_v 1))) (w_or1 (t_not (t_chain op_le op_le p_le p_le s_int (s_v 3) (s_gi (by rfl) T.c_MOST_REFILL))))))) (b_one (k_raiseT rfl tk T.r_BadStore (by rfl))) b_nil))))

theorem sc_need_world : FnScope ["world", "store", "machines", "machine", "steps"] ["world"] (defScope st_need_world) := ⟨rfl, rfl, rfl, by decide +kernel, rfl, by decide +kernel, by decide +kernel⟩
def m_need_world : M Fl := (mSeq (mAsg (mV 0) (mGT 2 (mGs1 (mGN 1) (mGs1 (mGN 2) mGs0))))
      (mSeq (mExpr (mCall 1 mf_need_store (mA1 (mV 1) mA0)))
      (mFor (mEnum (mV 2)) (mGT 2 (mGs1 (mGN 3) (mGs1 (mGN 4) mGs0))) (mSeq (mIf (mTst (mOp2 fEq (mV 3) (mC (.int (5))))) (mRaiseK "BadStep" ["machine", "step"] (mA1 (mV 3) (mA1 (mC (.int (0))) mA0))) mSkip)
      (mExpr (mCall 3 mf_need_steps (mA1 (mOp2 fIx (mV 1) (mC (.int (0)))) (mA1 (mV 3) (mA1 (mV 4) mA0)))))))))
def mf_need_world : MF := mBody 5 m_need_world
theorem ok_need_world (T : Facts K mg) (B : TBs K mg base) : DOk P w K mg base 4 "need_world" 1 ["world"] mf_need_world := by
  refine DOk.mk2 (k := 3) T.d_need_world sc_need_world (fun F => FunD.bindsN (ps := ["world"]) F fun _ _ _ _ _ _ us hl => match us, hl with | [_], _ => rfl) fun cdv A outer s H E _ hr tk => ?_
  have nd := sc_need_world.nd
  have hu := hr.units
  have hu1 := hu_of hr
  exact (b_cons (k_asg (s_v 0) (g_tup (n := 2) rfl (gs_1 (g_name (i := 1) nd) (gs_1 (g_name (i := 2) nd) gs_0))))
      (b_cons (k_expr (s_callD tk (ok_need_store T B) (hr.mono (by decide)) (by rfl) (a_1 (s_v 1) a_0)))
      (b_one (k_for (passes_of rfl) rfl (i_enum (by rfl) T.m_enumerate (s_v 2)) (g_tup (n := 2) rfl (gs_1 (g_name (i := 3) nd) (gs_1 (g_name (i := 4) nd) gs_0))) (b_cons (k_if (t_cmp (op_eqD hu) p_eq (s_v 3) (s_gi (by rfl) T.c_MOST_MACHINES) (nomark _)) (b_one (k_raiseK rfl tk (ok_x_BadStep T) (hr.mono (by decide)) (by rfl) (kw_1 (s_v 3) (kw_1 s_int kw_0)))) b_nil)
      (b_one (k_expr (s_callD tk (ok_need_steps T B) (hr.mono (by decide)) (by rfl) (a_1 (s_ix ix_seq p_ix (s_v 1) s_int (fun _ _ => rfl)) (a_1 (s_v 3) (a_1 (s_v 4) a_0)))))))))))

theorem sc_is_number : FnScope ["word"] ["word"] (defScope st_is_number) := ⟨rfl, rfl, rfl, by decide +kernel, rfl, by decide +kernel, by decide +kernel⟩
def m_is_number : M Fl := (mRet (mAndV (mChain fLe fLe (mC (.int (1))) (mCB fLen (mA1 (mV 0) mA0)) (mC (.int (2)))) (mAndV (mOp2 fEq (mMt "str" fStrip (mV 0) (mA1 (mC (.str "0123456789")) mA0)) (mC (.str ""))) (mOrV (mOp2 fEq (mV 0) (mC (.str "0"))) (mOp2 fNe (mOp2 fIx (mV 0) (mC (.int (0)))) (mC (.str "0")))))))
def mf_is_number : MF := mBody 1 m_is_number
theorem ok_is_number (T : Facts K mg) (B : TBs K mg base) : DOk P w K mg base 1 "is_number" 1 ["word"] mf_is_number := by
  refine DOk.mk2 (k := 0) T.d_is_number sc_is_number (fun F => FunD.bindsN (ps := ["word"]) F fun _ _ _ _ _ _ us hl => match us, hl with | [_], _ => rfl) fun cdv A outer s H E _ hr tk => ?_
  have nd := sc_is_number.nd
  have hu := hr.units
  have hu1 := hu_of hr
  exact (b_one (k_ret (s_and (s_chain op_le op_le p_le p_le s_int (s_callB call_len p_len (by rfl) T.m_len (by decide +kernel) (a_1 (s_v 0) a_0)) s_int) (s_and (s_cmp (op_eqD hu) p_eq (s_bm PySem.F.plainAttrs_str PySem.F.slot_str_strip PySem.F.type_str_strip mt_stripChars p_strip (s_v 0) (a_1 (s_gs (by rfl) T.c_FIGURES) a_0)) s_str (nomark _)) (s_b1 (s_or (s_cmp (op_eqD hu) p_eq (s_v 0) s_str (nomark _)) (s_b1 (s_cmp (op_neD hu) p_ne (s_ix ix_seq p_ix (s_v 0) s_int (fun _ _ => rfl)) s_str (nomark _)))))))))

theorem sc_numbers_in : FnScope ["words", "word"] ["words"] (defScope st_numbers_in) := ⟨rfl, rfl, rfl, by decide +kernel, rfl, by decide +kernel, by decide +kernel⟩
def m_numbers_in : M Fl := (mSeq (mIf (mOr (mTst (mOp2 fNe (mCB fLen (mA1 (mV 0) mA0)) (mC (.int (3))))) (mNot (mTst (mCB fAllB (mA1 (mComp [1] (mItems (mV 0)) (mGN 1) mYes (mCall 1 mf_is_number (mA1 (mV 1) mA0))) mA0))))) (mRet (mC .non)) mSkip)
      (mRet (mCB fTuple (mA1 (mComp [1] (mItems (mV 0)) (mGN 1) mYes (mCB fInt (mA1 (mV 1) mA0))) mA0))))
def mf_numbers_in : MF := mBody 2 m_numbers_in
theorem ok_numbers_in (T : Facts K mg) (B : TBs K mg base) : DOk P w K mg base 2 "numbers_in" 1 ["words"] mf_numbers_in := by
  refine DOk.mk2 (k := 1) T.d_numbers_in sc_numbers_in (fun F => FunD.bindsN (ps := ["words"]) F fun _ _ _ _ _ _ us hl => match us, hl with | [_], _ => rfl) fun cdv A outer s H E _ hr tk => ?_
  have nd := sc_numbers_in.nd
  have hu := hr.units
  have hu1 := hu_of hr
  exact (b_cons (k_if (t_w (w_or (t_cmp (op_neD hu) p_ne (s_callB call_len p_len (by rfl) T.m_len (by decide +kernel) (a_1 (s_v 0) a_0)) s_int (nomark _)) (w_or1 (t_not (t_val (s_callB (cr_all rfl) p_all (by rfl) T.m_all (by decide +kernel) (a_1 (s_comp (own := [("word", 1)]) rfl nd (i_seq (s_v 0)) (blkOk_by (N := ["words", "word"]) (sc := defScope st_numbers_in) (own := [("word", 1)]) (by decide +kernel)) (fun _ _ _ _ _ => (g_name (i := 1) nd)) (fun _ _ _ _ _ => c_yes) (fun _ _ _ _ _ => (s_callD takes0 (ok_is_number T B) (hr.mono (by decide)) (by rfl) (a_1 (s_v 1) a_0)))) a_0))))))) (b_one (k_ret s_non)) b_nil)
      (b_one (k_ret (s_callTy call_tuple_of p_tuple (by rfl) T.m_tuple (by decide +kernel) (a_1 (s_comp (own := [("word", 1)]) rfl nd (i_seq (s_v 0)) (blkOk_by (N := ["words", "word"]) (sc := defScope st_numbers_in) (own := [("word", 1)]) (by decide +kernel)) (fun _ _ _ _ _ => (g_name (i := 1) nd)) (fun _ _ _ _ _ => c_yes) (fun _ _ _ _ _ => (s_callTy call_int_str p_int (by rfl) T.m_int (by decide +kernel) (a_1 (s_v 1) a_0)))) a_0)))))

theorem sc_read : FnScope ["text", "rows", "machines", "number", "words", "steps", "found", "row", "word"] ["text"] (defScope st_read) := ⟨rfl, rfl, rfl, by decide +kernel, rfl, by decide +kernel, by decide +kernel⟩
def m_read : M Fl := (mSeq (mAsg (mComp [7] (mItems (mMt "str" fSplit (mV 0) (mA1 (mC (.str "\n")) mA0))) (mGN 7) mYes (mMt "str" fSplit (mV 7) (mA1 (mC (.str " ")) mA0))) (mGN 1))
      (mSeq (mIf (mOr (mTst (mOp2 fNe (mOp2 fIx (mOp2 fIx (mV 1) (mC (.int (0)))) (mC (.int (0)))) (mC (.str "store")))) (mTst (mOp2 fIsN (mCall 1 mf_numbers_in (mA1 (mSl fSl (mOp2 fIx (mV 1) (mC (.int (0)))) (mO1 (mC (.int (1)))) mO0) mA0)) (mC .non)))) (mRaiseK "BadText" ["row"] (mA1 (mC (.int (0))) mA0)) mSkip)
      (mSeq (mAsg (mLst mA0) (mGN 2))
      (mSeq (mFor (mEnum (mSl fSl (mV 1) (mO1 (mC (.int (1)))) mO0)) (mGT 2 (mGs1 (mGN 3) (mGs1 (mGN 4) mGs0))) (mSeq (mAsg (mComp [8] (mItems (mSl fSl (mV 4) (mO1 (mC (.int (1)))) mO0)) (mGN 8) mYes (mCall 1 mf_numbers_in (mA1 (mMt "str" fSplit (mV 8) (mA1 (mC (.str ",")) mA0)) mA0))) (mGN 5))
      (mSeq (mIf (mOr (mTst (mOp2 fNe (mOp2 fIx (mV 4) (mC (.int (0)))) (mC (.str "machine")))) (mTst (mOp2 (fInD false) (mC .non) (mV 5)))) (mRaiseK "BadText" ["row"] (mA1 (mOp2 fAdd (mV 3) (mC (.int (1)))) mA0)) mSkip)
      (mExpr (mCh chApp (mV 2) (mA1 (mCB fTuple (mA1 (mV 5) mA0)) mA0))))))
      (mSeq (mAsg (mTup (mA1 (mCall 1 mf_numbers_in (mA1 (mSl fSl (mOp2 fIx (mV 1) (mC (.int (0)))) (mO1 (mC (.int (1)))) mO0) mA0)) (mA1 (mCB fTuple (mA1 (mV 2) mA0)) mA0))) (mGN 6))
      (mSeq (mExpr (mCall 1 mf_need_world (mA1 (mV 6) mA0)))
      (mRet (mV 6))))))))
def mf_read : MF := mBody 9 m_read
theorem ok_read (T : Facts K mg) (B : TBs K mg base) : DOk P w K mg base 5 "read" 1 ["text"] mf_read := by
  refine DOk.mk2 (k := 4) T.d_read sc_read (fun F => FunD.bindsN (ps := ["text"]) F fun _ _ _ _ _ _ us hl => match us, hl with | [_], _ => rfl) fun cdv A outer s H E _ hr tk => ?_
  have nd := sc_read.nd
  have hu := hr.units
  have hu1 := hu_of hr
  exact (b_cons (k_setComp (i := 1) (own := [("row", 7)]) rfl nd (i_seq (s_bm PySem.F.plainAttrs_str PySem.F.slot_str_split PySem.F.type_str_split mt_split p_split (s_v 0) (a_1 s_str a_0))) (blkOk_by (N := ["text", "rows", "machines", "number", "words", "steps", "found", "row", "word"]) (sc := defScope st_read) (own := [("row", 7)]) (by decide +kernel)) (fun _ _ _ _ _ => (g_name (i := 7) nd)) (fun _ _ _ _ _ => c_yes) (fun _ _ _ _ _ => (s_bm PySem.F.plainAttrs_str PySem.F.slot_str_split PySem.F.type_str_split mt_split p_split (s_v 7) (a_1 s_str a_0))) (sw_true rfl rfl rfl (by decide +kernel)))
      (b_cons (k_if (t_w (w_or (t_cmp (op_neD hu) p_ne (s_ix ix_seq p_ix (s_ix ix_seq p_ix (s_v 1) s_int (fun _ _ => rfl)) s_int (fun _ _ => rfl)) (s_gs (by rfl) T.c_STORE) (nomark _)) (w_or1 (t_cmp op_isN p_isN (s_callD tk (ok_numbers_in T B) (hr.mono (by decide)) (by rfl) (a_1 (s_sl o_sl p_sl (s_ix ix_seq p_ix (s_v 1) s_int (fun _ _ => rfl)) (o_some s_int) o_no) a_0)) s_non (nomark _))))) (b_one (k_raiseK rfl tk (ok_x_BadText T) (hr.mono (by decide)) (by rfl) (kw_1 s_int kw_0))) b_nil)
      (b_cons (k_asg (s_lst a_0) (g_name (i := 2) nd))
      (b_cons (k_for (passes_of rfl) rfl (i_enum (by rfl) T.m_enumerate (s_sl o_sl p_sl (s_v 1) (o_some s_int) o_no)) (g_tup (n := 2) rfl (gs_1 (g_name (i := 3) nd) (gs_1 (g_name (i := 4) nd) gs_0))) (b_cons (k_setComp (i := 5) (own := [("word", 8)]) rfl nd (i_seq (s_sl o_sl p_sl (s_v 4) (o_some s_int) o_no)) (blkOk_by (N := ["text", "rows", "machines", "number", "words", "steps", "found", "row", "word"]) (sc := defScope st_read) (own := [("word", 8)]) (by decide +kernel)) (fun _ _ _ _ _ => (g_name (i := 8) nd)) (fun _ _ _ _ _ => c_yes) (fun _ _ _ _ _ => (s_callD takes0 (ok_numbers_in T B) (hr.mono (by decide)) (by rfl) (a_1 (s_bm PySem.F.plainAttrs_str PySem.F.slot_str_split PySem.F.type_str_split mt_split p_split (s_v 8) (a_1 s_str a_0)) a_0))) (sw_true rfl rfl rfl (by decide +kernel)))
      (b_cons (k_if (t_w (w_or (t_cmp (op_neD hu) p_ne (s_ix ix_seq p_ix (s_v 4) s_int (fun _ _ => rfl)) (s_gs (by rfl) T.c_MACHINE) (nomark _)) (w_or1 (t_cmp (op_inD (hu65_of hr)) p_inD s_non (s_v 5) (by rfl))))) (b_one (k_raiseK rfl tk (ok_x_BadText T) (hr.mono (by decide)) (by rfl) (kw_1 (s_op o_add p_add (s_v 3) s_int) kw_0))) b_nil)
      (b_one (k_expr (s_ch PySem.F.plainAttrs_list PySem.F.slot_list_append PySem.F.type_list_append mt_append p_app (s_v 2) (a_1 (s_callTy call_tuple_of p_tuple (by rfl) T.m_tuple (by decide +kernel) (a_1 (s_v 5) a_0)) a_0)))))))
      (b_cons (k_asg (s_tup (a_1 (s_callD tk (ok_numbers_in T B) (hr.mono (by decide)) (by rfl) (a_1 (s_sl o_sl p_sl (s_ix ix_seq p_ix (s_v 1) s_int (fun _ _ => rfl)) (o_some s_int) o_no) a_0)) (a_1 (s_callTy call_tuple_of p_tuple (by rfl) T.m_tuple (by decide +kernel) (a_1 (s_v 2) a_0)) a_0))) (g_name (i := 6) nd))
      (b_cons (k_expr (s_callD tk (ok_need_world T B) (hr.mono (by decide)) (by rfl) (a_1 (s_v 6) a_0)))
      (b_one (k_ret (s_v 6)))))))))

theorem sc_law : FnScope ["_law_script", "_law_h", "_law_odd", "_law_turn", "_law_lines", "_law_at", "_law_wish", "_law_some", "_law_text_here", "_law_spot", "_law_bent", "_law_one", "_law_found", "_law_kind_here", "_law_told"] ["_law_script"] (defScope st_law) := ⟨rfl, rfl, rfl, by decide +kernel, rfl, by decide +kernel, by decide +kernel⟩
noncomputable def m_law (LD : Nat → LamD) : M Fl := (mSeq (mAsg (mCall 2 mf__law_mix (mA1 (mV 0) (mA1 (mC (.int (41))) mA0))) (mGN 1))
      (mSeq (mAsg (mLst (mA1 (mC (.str "")) (mA1 (mC (.str "store")) (mA1 (mC (.str "store 1 2")) (mA1 (mC (.str "store 1  2 3")) (mA1 (mC (.str "store 01 0 1")) (mA1 (mC (.str "store 100 0 1")) (mA1 (mC (.str "store 0 0 0")) (mA1 (mC (.str "store 5 6 0")) (mA1 (mC (.str "store 5 5 10")) mA0)))))))))) (mGN 2))
      (mSeq (mAsg (mOp2 fAdd (mV 2) (mLst (mA1 (mC (.str "machine 1,1")) (mA1 (mC (.str "machine 1,1,1,1")) (mA1 (mC (.str "machine 1,0,0")) (mA1 (mC (.str "machine 1,1,2")) (mA1 (mC (.str "machine x,1,0")) (mA1 (mC (.str "machine 1,1,0 ")) (mA1 (mC (.str "Machine")) mA0))))))))) (mGN 2))
      (mSeq (mAsg (mOp2 fAdd (mV 2) (mLst (mA1 (mC (.str "machine 99,1,0")) (mA1 (mC (.str " machine")) (mA1 (mC (.str "machine 1,10,0")) (mA1 (mC (.str "machine 00,1,0")) (mA1 (mC (.str "machine 0,1,0 0,1,0 0,1,0 0,1,0 0,1,0 0,1,0 0,1,0")) mA0))))))) (mGN 2))
      (mSeq (mFor (mRng1 (mC (.int (8)))) (mGN 3) (mSeq (mAsg (mMt "str" fSplit (mCall 1 mf__law_text (mA1 (mCall 3 mf__law_world (mA1 (mV 1) (mA1 (mC (.int (5))) (mA1 (mC (.int (40))) mA0)))) mA0)) (mA1 (mC (.str "\n")) mA0)) (mGN 4))
      (mSeq (mPar 5 6 (mCall 2 mf__law_next (mA1 (mV 1) (mA1 (mCB fLen (mA1 (mV 4) mA0)) mA0))) (mCall 2 mf__law_next (mA1 (mV 1) (mA1 (mC (.int (6))) mA0))))
      (mSeq (mAsg (mLst (mA1 (mOp2 fAdd (mSl fSl (mV 4) mO0 (mO1 (mV 5))) (mSl fSl (mV 4) (mO1 (mOp2 fAdd (mV 5) (mC (.int (1))))) mO0)) (mA1 (mOp2 fAdd (mSl fSl (mV 4) mO0 (mO1 (mOp2 fAdd (mV 5) (mC (.int (1)))))) (mSl fSl (mV 4) (mO1 (mV 5)) mO0)) (mA1 (mV 4) (mA1 (mOp1 fRev (mV 4)) mA0))))) (mGN 7))
      (mSeq (mExpr (mCh chApp (mV 7) (mA1 (mOp2 fAdd (mOp2 fAdd (mSl fSl (mV 4) mO0 (mO1 (mV 5))) (mLst (mA1 (mOp2 fIx (mV 2) (mCall 2 mf__law_next (mA1 (mV 1) (mA1 (mC (.int (21))) mA0)))) mA0))) (mSl fSl (mV 4) (mO1 (mOp2 fAdd (mV 5) (mC (.int (1))))) mO0)) mA0)))
      (mSeq (mExpr (mCh chApp (mV 7) (mA1 (mOp2 fAdd (mV 4) (mLst (mA1 (mOp2 fIx (mV 2) (mOp2 fAdd (mC (.int (9))) (mCall 2 mf__law_next (mA1 (mV 1) (mA1 (mC (.int (12))) mA0))))) mA0))) mA0)))
      (mSeq (mAsg (mMt "str" fJoin (mC (.str "\n")) (mA1 (mOp2 fIx (mV 7) (mV 6)) mA0)) (mGN 8))
      (mSeq (mAsg (mCall 2 mf__law_next (mA1 (mV 1) (mA1 (mOp2 fAdd (mCB fLen (mA1 (mV 8) mA0)) (mC (.int (1)))) mA0))) (mGN 9))
      (mSeq (mAsg (mOp2 fAdd (mOp2 fAdd (mSl fSlS (mV 8) mO0 (mO1 (mV 9))) (mOp2 fIx (mC (.str "a0 9,\n")) (mCall 2 mf__law_next (mA1 (mV 1) (mA1 (mC (.int (6))) mA0))))) (mSl fSlS (mV 8) (mO1 (mOp2 fAdd (mV 9) (mCall 2 mf__law_next (mA1 (mV 1) (mA1 (mC (.int (2))) mA0))))) mO0)) (mGN 10))
      (mFor (mItems (mTup (mA1 (mV 8) (mA1 (mV 10) (mA1 (mOp2 fAdd (mV 8) (mC (.str "\n"))) mA0))))) (mGN 11) (mSeq (mAsg (mLst mA0) (mGN 12))
      (mSeq (mAsg (mKind (mCh chApp (mV 12) (mA1 (mCall 1 mf_read (mA1 (mV 11) mA0)) mA0))) (mGN 13))
      (mSeq (mAsg (mIfE (mTst (mOp2 fEq (mV 13) (mTup (mA1 (mC (.str "")) (mA1 (mC (.int (0))) mA0))))) (mTup (mA1 (mC (.str "told")) (mA1 (mOp2 fIx (mV 12) (mC (.int (0)))) mA0))) (mV 13)) (mGN 14))
      (mIf (mNot (mTst (mCall 2 (mf__law_alike 6) (mA1 (mV 14) (mA1 (mCall 1 mf__law_due (mA1 (mV 11) mA0)) mA0))))) (mRet (mC (.bl false))) mSkip))))))))))))))
      (mRet (mC (.bl true))))))))
noncomputable def mf_law (LD : Nat → LamD) : MF := mBody 15 (m_law LD)
def ldLaw (cells : List (Str × Addr)) : Nat → LamD := fun k => mkL k "" (.Name "" ⟨0, 0, 0, 0⟩) cells none
theorem ok_law (T : Facts K mg) (B : TBs K mg base) {fd : FuncData} (F : FunD K "law" "law" (defArgs st_law) (defBody st_law) (defScope st_law) [] [] (He.ga K "law") fd) : FnOk P w K mg base (L2.CX P w) 11 (He.ga K "law") fd ["_law_script"] (spMA K mg 1 mf_law) := by
  refine law_okA F sc_law fun cdv A outer s H E _ hcd hr tk => ?_
  subst hcd
  have nd := sc_law.nd
  have hu := hr.units
  have hu1 := hu_of hr
  exact ⟨ldLaw [], (b_cons (k_asg (s_callD tk (ok__law_mix T B) (hr.mono (by decide)) (by rfl) (a_1 (s_v 0) (a_1 s_int a_0))) (g_name (i := 1) nd))
      (b_cons (k_asg (s_lst (a_1 s_str (a_1 s_str (a_1 s_str (a_1 s_str (a_1 s_str (a_1 s_str (a_1 s_str (a_1 s_str (a_1 s_str a_0)))))))))) (g_name (i := 2) nd))
      (b_cons (k_asg (s_op o_add p_add (s_v 2) (s_lst (a_1 s_str (a_1 s_str (a_1 s_str (a_1 s_str (a_1 s_str (a_1 s_str (a_1 s_str a_0))))))))) (g_name (i := 2) nd))
      (b_cons (k_asg (s_op o_add p_add (s_v 2) (s_lst (a_1 s_str (a_1 s_str (a_1 s_str (a_1 s_str (a_1 s_str a_0))))))) (g_name (i := 2) nd))
      (b_cons (k_for (passes_of rfl) rfl (i_rng1 (by rfl) T.m_range s_int) (g_name (i := 3) nd) (b_cons (k_asg (s_bm PySem.F.plainAttrs_str PySem.F.slot_str_split PySem.F.type_str_split mt_split p_split (s_callD tk (ok__law_text T B) (hr.mono (by decide)) (by rfl) (a_1 (s_callD tk (ok__law_world T B) (hr.mono (by decide)) (by rfl) (a_1 (s_v 1) (a_1 s_int (a_1 s_int a_0)))) a_0)) (a_1 s_str a_0)) (g_name (i := 4) nd))
      (b_cons (k_par (i := 5) (j := 6) rfl nd (s_callD tk (ok__law_next T B) (hr.mono (by decide)) (by rfl) (a_1 (s_v 1) (a_1 (s_callB call_len p_len (by rfl) T.m_len (by decide +kernel) (a_1 (s_v 4) a_0)) a_0))) (s_callD tk (ok__law_next T B) (hr.mono (by decide)) (by rfl) (a_1 (s_v 1) (a_1 s_int a_0))))
      (b_cons (k_asg (s_lst (a_1 (s_op o_add p_add (s_sl o_sl p_sl (s_v 4) o_no (o_some (s_v 5))) (s_sl o_sl p_sl (s_v 4) (o_some (s_op o_add p_add (s_v 5) s_int)) o_no)) (a_1 (s_op o_add p_add (s_sl o_sl p_sl (s_v 4) o_no (o_some (s_op o_add p_add (s_v 5) s_int))) (s_sl o_sl p_sl (s_v 4) (o_some (s_v 5)) o_no)) (a_1 (s_v 4) (a_1 (s_rev (s_v 4)) a_0))))) (g_name (i := 7) nd))
      (b_cons (k_expr (s_ch PySem.F.plainAttrs_list PySem.F.slot_list_append PySem.F.type_list_append mt_append p_app (s_v 7) (a_1 (s_op o_add p_add (s_op o_add p_add (s_sl o_sl p_sl (s_v 4) o_no (o_some (s_v 5))) (s_lst (a_1 (s_ix ix_seq p_ix (s_v 2) (s_callD tk (ok__law_next T B) (hr.mono (by decide)) (by rfl) (a_1 (s_v 1) (a_1 s_int a_0))) (fun _ _ => rfl)) a_0))) (s_sl o_sl p_sl (s_v 4) (o_some (s_op o_add p_add (s_v 5) s_int)) o_no)) a_0)))
      (b_cons (k_expr (s_ch PySem.F.plainAttrs_list PySem.F.slot_list_append PySem.F.type_list_append mt_append p_app (s_v 7) (a_1 (s_op o_add p_add (s_v 4) (s_lst (a_1 (s_ix ix_seq p_ix (s_v 2) (s_op o_add p_add s_int (s_callD tk (ok__law_next T B) (hr.mono (by decide)) (by rfl) (a_1 (s_v 1) (a_1 s_int a_0)))) (fun _ _ => rfl)) a_0))) a_0)))
      (b_cons (k_asg (s_bm PySem.F.plainAttrs_str PySem.F.slot_str_join PySem.F.type_str_join mt_join p_join s_str (a_1 (s_ix ix_seq p_ix (s_v 7) (s_v 6) (fun _ _ => rfl)) a_0)) (g_name (i := 8) nd))
      (b_cons (k_asg (s_callD tk (ok__law_next T B) (hr.mono (by decide)) (by rfl) (a_1 (s_v 1) (a_1 (s_op o_add p_add (s_callB call_len p_len (by rfl) T.m_len (by decide +kernel) (a_1 (s_v 8) a_0)) s_int) a_0))) (g_name (i := 9) nd))
      (b_cons (k_asg (s_op o_add p_add (s_op o_add p_add (s_sl C8.sl_txt p_slS (s_v 8) o_no (o_some (s_v 9))) (s_ix ix_seq p_ix s_str (s_callD tk (ok__law_next T B) (hr.mono (by decide)) (by rfl) (a_1 (s_v 1) (a_1 s_int a_0))) (fun _ _ => rfl))) (s_sl C8.sl_txt p_slS (s_v 8) (o_some (s_op o_add p_add (s_v 9) (s_callD tk (ok__law_next T B) (hr.mono (by decide)) (by rfl) (a_1 (s_v 1) (a_1 s_int a_0))))) o_no)) (g_name (i := 10) nd))
      (b_one (k_for (passes_of rfl) rfl (i_seq (s_tup (a_1 (s_v 8) (a_1 (s_v 10) (a_1 (s_op o_add p_add (s_v 8) s_str) a_0))))) (g_name (i := 11) nd) (b_cons (k_asg (s_lst a_0) (g_name (i := 12) nd))
      (b_cons (k_asg (s_kindL T.kx T.d__law_kind sc__law_kind bd__law_kind (kg T) (.inl rfl) (B _ (by decide) T.g_law) rfl (tbl_mem (by decide) T.g_law) (tbl_uniq T.tu (by decide) T.g_law) (k := 8) (hr.mono (by decide)) (by rfl) (lamW_by (by kernel_rfl)) rfl (fun _ _ _ _ _ _ => rfl) (fun q cl A outer s H E f c' hr => (have tk := L2.takes_of rfl rfl rfl rfl; have hu := hr.units; have hu1 := hu_of hr; (s_ch PySem.F.plainAttrs_list PySem.F.slot_list_append PySem.F.type_list_append mt_append p_app (s_v 12) (a_1 (s_callD tk (ok_read T B) (hr.mono (by decide)) (by rfl) (a_1 (s_v 11) a_0)) a_0))))) (g_name (i := 13) nd))
      (b_cons (k_asg (s_if (t_cmp (op_eqD hu) p_eq (s_v 13) (s_tup (a_1 s_str (a_1 s_int a_0))) (nomark _)) (s_tup (a_1 s_str (a_1 (s_ix ix_seq p_ix (s_v 12) s_int (fun _ _ => rfl)) a_0))) (s_v 13)) (g_name (i := 14) nd))
      (b_one (k_if (t_not (t_val (s_callD tk (ok__law_alike T B 6) (hr.mono (by decide)) (by rfl) (a_1 (s_v 14) (a_1 (s_callD tk (ok__law_due T B) (hr.mono (by decide)) (by rfl) (a_1 (s_v 11) a_0)) a_0))))) (b_one (k_ret s_bl)) b_nil))))))))))))))))
      (b_one (k_ret s_bl)))))))⟩
end Wk


namespace Wk
open PySem L2 Sm Lk
section
local macro_rules | `(tactic| walk_at "ev") => `(tactic| simp (maxSteps := 1000000) -implicitDefEqProofs only [e_skip, e_bad, e_expr, e_seq, wNx_nx, wNx_brk, wNx_cnt, wNx_ret, wLp_nx, wLp_brk, wLp_cnt, wLp_ret, e_pure, e_ret, wGive_val, wGive_own, wGive_loc, e_if, e_ifE, e_not, e_and, e_or, e_tst, e_bool, e_yes, wB_bl, wI_int, wO_some, e_c, e_v, e_op1, e_op2, e_a0, e_a1, e_cb, e_chain, e_andV, e_orV, e_notV, e_take_val, e_take_own, e_take_loc, e_takes0, e_takes1, e_tup, e_lst, wBox_own, e_box, e_call, wEnd_nx, wEnd_ret, e_asg, e_gn_val, e_gn_own, e_gn_loc, e_gs0, e_gs1, e_gt, e_gsub, e_put_ref, e_put_loc, e_aug, e_for, e_loop0, e_items, wItems_tup, wItems_ktup, wItems_lst, wItems_scr, e_rng1, e_lrng, wEnu_tup, wEnu_lst, e_enum, e_ch, e_ch_loc, isL_loc, wDic_ref, e_dnew, e_dget, e_din, e_dput, e_comp, e_cloop0, view_val, view_own, view_loc, de_non, de_bl, de_int, de_str, de_tup, de_lst, de_scr, de_ty, de_ref, vw0, vw1, op2_some, op1_some, o_addI, o_addT, o_addL, o_i2, o_mod, o_div, o_pow, o_mulI, wIf_t, wIf_f, Int.reducePow, Int.reduceNeg, Int.reduceLT, Int.reduceLE, Int.reduceEq, Int.reduceNe, ne_eq, not_false_eq_true, Int.reduceToNat, true_or, or_true, and_self, cst0, cst1, cst2, cst3, cst4, cst5, cst6, cst7, cst8, cst9, eq_self, Int.reduceAdd, Int.reduceSub, Int.reduceMul, Nat.reducePow, o_c, o_ixL, o_ixT, at0, at1, at2, at3, at4, o_lenL, o_lenT, o_lenS, o_listL, o_listT, o_listS, o_tupL, o_tupT, o_max2, o_min2, o_eqI, o_neI, o_isN, o_notN, ch_app, map_some, Sm.isNon, isi1, isi2, tyN_NoneType, tyN_bool, tyN_int, tyN_str, tyN_tuple, tyN_list, okTy_bool, isTy_NoneType_bool, isTy_bool_bool, isTy_int_bool, isTy_str_bool, isTy_tuple_bool, isTy_list_bool, okTy_int, isTy_NoneType_int, isTy_bool_int, isTy_int_int, isTy_str_int, isTy_tuple_int, isTy_list_int, okTy_str, isTy_NoneType_str, isTy_bool_str, isTy_int_str, isTy_str_str, isTy_tuple_str, isTy_list_str, okTy_tuple, isTy_NoneType_tuple, isTy_bool_tuple, isTy_int_tuple, isTy_str_tuple, isTy_tuple_tuple, isTy_list_tuple, okTy_list, isTy_NoneType_list, isTy_bool_list, isTy_int_list, isTy_str_list, isTy_tuple_list, isTy_list_list, bind_some, o_eqB, o_neB, o_eqNN, o_eq00, get_end, set_end, key_encN, o_notInN,  beq_self_eq_true, Bool.or_false, Bool.or_true, Bool.or_self, Bool.false_or, Bool.true_or, List.getElem?_cons_zero, List.getElem?_cons_succ, List.set_cons_zero, List.set_cons_succ, List.length_cons, List.length_nil, List.map_cons, List.map_nil, List.append_nil, List.nil_append, List.cons_append, Nat.zero_add, Nat.reduceAdd, Nat.reduceLeDiff, Nat.reduceLT, Nat.reduceSub, List.replicate, true_and, and_true, if_true, if_false, ite_true, ite_false, Bool.not_true, Bool.not_false, reduceCtorEq, decide_true, decide_false, decide_eq_true_eq, Bool.not_eq_true', decide_eq_false_iff_not, List.length_set, List.length_map, List.length_append, wipeS, unwipe])

def Rg (rest : List Ob) (hp : List Ob) : Prop := ∃ (c : List Int) (m p : Int), c.length ≤ 63 ∧ hp = .lst (c.map .int) :: .lst [.int m, .ref 0, .int p] :: rest
theorem cell_at (c : List Int) (p : Int) : ∃ (j : Nat) (x : Int), atI (c.map Val.int ++ [Val.int 0]) (p.fmod (if (c.length : Int) > 1 then (c.length : Int) else 1)) = some (.int x) ∧
    (1000000000000000000 ≤ x → ((c.length : Int) ≠ 0 ∧ ixN (c.map Val.int).length (p.fmod c.length) = some j)) := by
  by_cases h : c.length = 0
  · have : c = [] := by cases c with | nil => rfl | cons _ _ => cases h
    subst this
    refine ⟨0, 0, ?_, fun h => absurd h (by decide)⟩
    show atI [Val.int 0] (p.fmod 1) = _
    have : p.fmod 1 = 0 := by
      have h1 := Int.fmod_nonneg_of_pos p (by decide : (0 : Int) < 1)
      have h2 := Int.fmod_lt_of_pos p (by decide : (0 : Int) < 1)
      omega
    rw [this]
    exact at0
  · have e : (if (c.length : Int) > 1 then (c.length : Int) else 1) = c.length := by split <;> omega
    rw [e]
    have hp : (0 : Int) < c.length := by omega
    have h1 := Int.fmod_nonneg_of_pos p hp
    have h2 := Int.fmod_lt_of_pos p hp
    generalize p.fmod c.length = q at *
    have hj : q.toNat < c.length := by omega
    have hq : q = (q.toNat : Int) := by omega
    refine ⟨q.toNat, c[q.toNat], ?_, fun _ => ⟨by omega, ?_⟩⟩
    · have := atI_nat (xs := c.map Val.int ++ [Val.int 0]) (j := q.toNat) (v := .int c[q.toNat]) (by
        rw [List.getElem?_append_left (by rw [List.length_map]; omega), List.getElem?_map, List.getElem?_eq_getElem hj]
        rfl)
      rw [← hq] at this
      exact this
    · unfold ixN
      rw [List.length_map, if_pos h1, if_pos h2]
theorem next_wp {rest hp : List Ob} {many : Int} {Q : T → List Ob → Prop} (h : Rg rest hp) (h0 : 0 < many) (h1 : many < 1073741824) (k : ∀ v hp', Rg rest hp' → 0 ≤ v → v < many → Q (.val (.int v)) hp') : wpc mf__law_next [.ref 1, .int many] hp Q := by
  obtain ⟨c, m, p, hc, rfl⟩ := h
  unfold mf__law_next
  rw [e_body]
  unfold m__law_next
  walk_at "ev"
  refine ⟨by omega, by split <;> omega, ?_⟩
  obtain ⟨j, x, e, hx⟩ := cell_at c p
  rw [e]
  walk_at "ev"
  refine wIf_sp (fun hge => ?_) (fun hge => ?_)
  · obtain ⟨hl, hj⟩ := hx (of_decide_eq_true hge)
    walk_at "ev"
    refine ⟨⟨by omega, by omega⟩, hl, ?_⟩
    rw [List.length_map] at hj
    rw [hj]
    walk_at "ev"
    refine ⟨by omega, ?_⟩
    refine k _ _ ⟨c.set j (x.fdiv many), m, p, by rw [List.length_set]; exact hc, by rw [List.map_set]⟩ (Int.fmod_nonneg_of_pos _ h0) (Int.fmod_lt_of_pos _ h0)
  · walk_at "ev"
    have e0 : ixN 3 0 = some 0 := rfl
    have e2 : ixN 3 2 = some 2 := rfl
    rw [e0]
    walk_at "ev"
    rw [e2]
    walk_at "ev"
    refine ⟨by omega, ?_⟩
    exact k _ _ ⟨c, _, p + 1, hc, rfl⟩ (Int.fmod_nonneg_of_pos _ h0) (Int.fmod_lt_of_pos _ h0)

theorem mix_wp {ns : List Int} {seed : Int} {Q : T → List Ob → Prop} (hl : ns.length ≤ 63) (k : ∀ hp, Rg [] hp → Q (.val (.ref 1)) hp) : wpc mf__law_mix [.scr (ns.map .int), .int seed] [] Q := by
  unfold mf__law_mix
  rw [e_body]
  unfold m__law_mix
  walk_at "ev"
  refine wp_loop (fun _ s => ∃ m s3, s = ⟨[], [.val (.scr (ns.map .int)), .val (.int seed), .val (.int m), s3]⟩) ⟨_, _, rfl⟩ (fun x xs s => ?_) (fun s => ?_)
  · rintro ⟨m, s3, rfl⟩
    walk_at "ev"
    exact ⟨_, _, rfl⟩
  · rintro ⟨m, s3, rfl⟩
    walk_at "ev"
    exact k _ ⟨ns, m, 0, hl, rfl⟩
abbrev Step := Int × Int × Int
def encS (s : Step) : Val := .tup [.int s.1, .int s.2.1, .int s.2.2]
def encM (ss : List Step) : Val := .tup (ss.map encS)
structure Wd where
  cap : Int
  start : Int
  refill : Int
  ms : List (List Step)
def encW (w : Wd) : Val := .tup [.tup [.int w.cap, .int w.start, .int w.refill], .tup (w.ms.map encM)]
def okS (cap : Int) (s : Step) : Prop := 0 ≤ s.1 ∧ s.1 ≤ cap ∧ 1 ≤ s.2.1 ∧ s.2.1 ≤ 9 ∧ 0 ≤ s.2.2 ∧ s.2.2 ≤ s.1
structure Wd.Ok (w : Wd) : Prop where
  c0 : 1 ≤ w.cap
  c1 : w.cap ≤ 99
  s0 : 0 ≤ w.start
  s1 : w.start ≤ w.cap
  r0 : 0 ≤ w.refill
  r1 : w.refill ≤ 9
  n : w.ms.length ≤ 5
  st : ∀ m ∈ w.ms, m.length ≤ 6 ∧ ∀ s ∈ m, okS w.cap s
theorem at_all {P : Int → Prop} (l : List Int) {i : Int} (h0 : 0 ≤ i) (h1 : i < l.length) (h : ∀ x ∈ l, P x) : ∃ x, atI (l.map Val.int) i = some (.int x) ∧ P x := by
  have hj : i.toNat < l.length := by omega
  refine ⟨l[i.toNat], ?_, h _ (List.getElem_mem hj)⟩
  have := atI_nat (xs := l.map Val.int) (j := i.toNat) (v := .int l[i.toNat]) (by
    rw [List.getElem?_map, List.getElem?_eq_getElem hj]
    rfl)
  rw [show ((i.toNat : Nat) : Int) = i from by omega] at this
  exact this
theorem world_wp {rest hp : List Ob} {most cap : Int} {Q : T → List Ob → Prop} (h : Rg rest hp) (m0 : 0 ≤ most) (m1 : most ≤ 5) (c0 : 1 ≤ cap) (c1 : cap ≤ 99)
    (k : ∀ w hp', Rg rest hp' → Wd.Ok w → w.cap ≤ cap → (w.ms.length : Int) ≤ most → (∀ m ∈ w.ms, m.length ≤ 4) → Q (.val (encW w)) hp') : wpc mf__law_world [.ref 1, .int most, .int cap] hp Q := by
  unfold mf__law_world
  rw [e_body]
  unfold m__law_world
  walk_at "ev"
  refine next_wp h (by omega) (by omega) fun v1 hp h _ _ => ?_
  walk_at "ev"
  refine next_wp h (by omega) (by omega) fun v2 hp h _ _ => ?_
  walk_at "ev"
  refine next_wp h (by omega) (by omega) fun v3 hp h _ _ => ?_
  walk_at "ev"
  obtain ⟨re, e, hr0, hr1⟩ := at_all (P := fun x => 0 ≤ x ∧ x ≤ 9) [0, 1, 1, 2, v2] (i := v3) (by omega) (by simp; omega) (by
    intro x hx
    simp at hx
    rcases hx with rfl | rfl | rfl | rfl <;> omega)
  rw [show [Val.int 0, Val.int 1, Val.int 1, Val.int 2, Val.int v2] = [0, 1, 1, 2, v2].map Val.int from rfl, e]
  walk_at "ev"
  refine next_wp h (by omega) (by omega) fun v4 hp h _ _ => ?_
  walk_at "ev"
  refine next_wp h (by omega) (by omega) fun v5 hp h _ _ => ?_
  walk_at "ev"
  refine ⟨by omega, ?_⟩
  rw [intR_map]
  refine wp_loop (fun l s => ∃ (hp : List Ob) (ms : List (List Step)) (s5 s6 s7 s8 s9 : Sl), Rg rest hp ∧ (∀ m ∈ ms, m.length ≤ 4 ∧ ∀ s ∈ m, okS (1 + v1) s) ∧ ((ms.length + l.length : Nat) : Int) ≤ most ∧ s = ⟨hp, [.val (.ref 1), .val (.int most), .val (.int cap), .val (.tup [.int (1 + v1), .int v4, .int re]), .own (ms.map encM), s5, s6, s7, s8, s9]⟩)
    ⟨hp, [], _, _, _, _, _, h, by simp, by simp; omega, rfl⟩ (fun x xs s => ?_) (fun s => ?_)
  · rintro ⟨hp, ms, s5, s6, s7, s8, s9, h, hm, hn, rfl⟩
    walk_at "ev"
    refine next_wp h (by omega) (by omega) fun v6 hp h _ _ => ?_
    walk_at "ev"
    refine ⟨by omega, ?_⟩
    rw [intR_map]
    refine wp_loop (fun l s => ∃ (hp : List Ob) (ss : List Step) (s7 s8 s9 : Sl), Rg rest hp ∧ (∀ s ∈ ss, okS (1 + v1) s) ∧ ss.length + l.length ≤ 4 ∧ s = ⟨hp, [.val (.ref 1), .val (.int most), .val (.int cap), .val (.tup [.int (1 + v1), .int v4, .int re]), .own (ms.map encM), .val (.int x), .own (ss.map encS), s7, s8, s9]⟩)
      ⟨hp, [], _, _, _, h, by simp, by simp; omega, rfl⟩ (fun y ys s => ?_) (fun s => ?_)
    · rintro ⟨hp, ss, s7, s8, s9, h, hs, hn, rfl⟩
      walk_at "ev"
      refine next_wp h (by omega) (by omega) fun v7 hp h _ _ => ?_
      walk_at "ev"

      refine if_via (fun t s => ∃ (d : Int) (hp : List Ob), Rg rest hp ∧ 0 ≤ d ∧ d ≤ 1 + v1 ∧ t = .val (.int d) ∧ s = ⟨hp, [.val (.ref 1), .val (.int most), .val (.int cap), .val (.tup [.int (1 + v1), .int v4, .int re]), .own (ms.map encM), .val (.int x), .own (ss.map encS), .val (.int y), s8, s9]⟩) (fun _ => ?_) (fun _ => ?_) ?_
      · walk_at "ev"
        exact next_wp h (by omega) (by omega) fun d hp h _ _ => ⟨d, hp, h, by omega, by omega, rfl, rfl⟩
      · walk_at "ev"
        exact next_wp h (by split <;> omega) (by split <;> omega) fun d hp h _ hd => ⟨d, hp, h, by omega, by split at hd <;> omega, rfl, rfl⟩
      rintro _ _ ⟨d, hp, h, hd0, hd1, rfl, rfl⟩
      walk_at "ev"
      refine next_wp h (by omega) (by omega) fun v8 hp h _ _ => ?_
      walk_at "ev"
      refine next_wp h (by omega) (by omega) fun v9 hp h _ _ => ?_
      walk_at "ev"
      obtain ⟨bk, e, hb0, hb1⟩ := at_all (P := fun x => 0 ≤ x ∧ x ≤ d) [0, d, v8] (i := v9) (by omega) (by simp; omega) (by
        intro x hx
        simp at hx
        rcases hx with rfl | rfl | rfl <;> omega)
      rw [show [Val.int 0, Val.int d, Val.int v8] = [0, d, v8].map Val.int from rfl, e]
      walk_at "ev"
      refine next_wp h (by omega) (by omega) fun v10 hp h _ _ => ?_
      walk_at "ev"
      have hv : v10.fdiv 3 = 0 ∨ v10.fdiv 3 = 1 := by
        have : v10 = 0 ∨ v10 = 1 ∨ v10 = 2 ∨ v10 = 3 := by omega
        rcases this with rfl | rfl | rfl | rfl <;> decide
      obtain ⟨lo, e, hl0, hl1⟩ := at_all (P := fun x => 3 ≤ x ∧ x ≤ 9) [3, 9] (i := v10.fdiv 3) (by omega) (by simp; omega) (by
        intro x hx
        simp at hx
        rcases hx with rfl | rfl <;> omega)
      rw [show [Val.int 3, Val.int 9] = [3, 9].map Val.int from rfl, e]
      walk_at "ev"
      refine next_wp h (by omega) (by omega) fun v11 hp h _ _ => ?_
      walk_at "ev"
      simp only [List.length_cons] at hn
      rw [show ss.map encS ++ [Val.tup [Val.int d, Val.int (1 + v11), Val.int bk]] = (ss ++ [(d, 1 + v11, bk)]).map encS from by rw [List.map_append]; rfl]
      refine ⟨by omega, hp, ss ++ [(d, 1 + v11, bk)], _, _, _, h, ?_, ?_, rfl⟩
      · intro s hs'
        rcases List.mem_append.mp hs' with q | q
        · exact hs s q
        · rw [List.mem_singleton.mp q]
          exact ⟨hd0, hd1, by show 1 ≤ 1 + v11; omega, by show 1 + v11 ≤ 9; omega, hb0, hb1⟩
      · rw [List.length_append, List.length_singleton]; omega
    · rintro ⟨hp, ss, s7, s8, s9, h, hs, hn', rfl⟩
      walk_at "ev"
      simp only [List.length_cons] at hn
      rw [show ms.map encM ++ [Val.tup (ss.map encS)] = (ms ++ [ss]).map encM from by rw [List.map_append]; rfl]
      refine ⟨by omega, hp, ms ++ [ss], _, _, _, _, _, h, ?_, ?_, rfl⟩
      · intro s hs'
        rcases List.mem_append.mp hs' with q | q
        · exact hm s q
        · rw [List.mem_singleton.mp q]
          exact ⟨by simpa using hn', hs⟩
      · rw [List.length_append, List.length_singleton]; omega
  · rintro ⟨hp, ms, s5, s6, s7, s8, s9, h, hm, hn, rfl⟩
    walk_at "ev"
    simp only [List.length_nil] at hn
    refine k ⟨1 + v1, v4, re, ms⟩ _ h ⟨by show 1 ≤ 1 + v1; omega, by show 1 + v1 ≤ 99; omega, by show 0 ≤ v4; omega, by show v4 ≤ 1 + v1; omega, hr0, hr1, by show ms.length ≤ 5; omega, fun m hm' => ⟨by have := (hm m hm').1; omega, (hm m hm').2⟩⟩ (by show 1 + v1 ≤ cap; omega) (by show (ms.length : Int) ≤ most; omega) fun m hm' => (hm m hm').1

theorem needStore_wp {w : Wd} {hp : List Ob} {Q : T → List Ob → Prop} (h : w.Ok) (k : Q (.val .non) hp) : wpc mf_need_store [.tup [.int w.cap, .int w.start, .int w.refill]] hp Q := by
  unfold mf_need_store
  rw [e_body]
  unfold m_need_store
  walk_at "ev"
  rw [decide_eq_true h.c0]
  walk_at "ev"
  rw [decide_eq_true h.c1]
  walk_at "ev"
  rw [decide_eq_true h.s0]
  walk_at "ev"
  rw [decide_eq_true h.s1]
  walk_at "ev"
  rw [decide_eq_true h.r0]
  walk_at "ev"
  rw [decide_eq_true h.r1]
  walk_at "ev"
  exact k
theorem needSteps_wp {cap n : Int} {ss : List Step} {hp : List Ob} {Q : T → List Ob → Prop} (hl : ss.length ≤ 6) (h : ∀ s ∈ ss, okS cap s) (k : Q (.val .non) hp) : wpc mf_need_steps [.int cap, .int n, encM ss] hp Q := by
  unfold mf_need_steps
  rw [e_body]
  unfold m_need_steps encM
  walk_at "ev"
  refine wp_loopE (fun i l s => ∃ s3 s4 s5 s6 s7, i + l.length ≤ 6 ∧ (∀ s ∈ l, okS cap s) ∧ s = ⟨hp, [.val (.int cap), .val (.int n), .val (.tup (ss.map encS)), s3, s4, s5, s6, s7]⟩)
    ⟨_, _, _, _, _, by omega, h, rfl⟩ (fun i x xs s => ?_) (fun i s => ?_)
  · rintro ⟨s3, s4, s5, s6, s7, hi, hx, rfl⟩
    obtain ⟨h1, h2, h3, h4, h5, h6⟩ := hx x (.head _)
    simp only [List.length_cons] at hi
    unfold encS
    walk_at "ev"
    rw [decide_eq_false (show ¬ (i : Int) = 6 from by omega)]
    walk_at "ev"
    rw [decide_eq_true h1]
    walk_at "ev"
    rw [decide_eq_true h2]
    walk_at "ev"
    rw [decide_eq_true h3]
    walk_at "ev"
    rw [decide_eq_true h4]
    walk_at "ev"
    rw [decide_eq_true h5]
    walk_at "ev"
    rw [decide_eq_true h6]
    walk_at "ev"
    exact ⟨_, _, _, _, _, by omega, fun s hs => hx s (.tail _ hs), rfl⟩
  · rintro ⟨s3, s4, s5, s6, s7, hi, hx, rfl⟩
    walk_at "ev"
    exact k
theorem needWorld_wp {w : Wd} {hp : List Ob} {Q : T → List Ob → Prop} (h : w.Ok) (k : Q (.val .non) hp) : wpc mf_need_world [encW w] hp Q := by
  unfold mf_need_world
  rw [e_body]
  unfold m_need_world encW
  walk_at "ev"
  refine needStore_wp h ?_
  walk_at "ev"
  refine wp_loopE (fun i l s => ∃ s3 s4, i + l.length ≤ 5 ∧ (∀ m ∈ l, m.length ≤ 6 ∧ ∀ s ∈ m, okS w.cap s) ∧ s = ⟨hp, [.val (encW w), .val (.tup [.int w.cap, .int w.start, .int w.refill]), .val (.tup (w.ms.map encM)), s3, s4]⟩)
    ⟨_, _, by have := h.n; omega, h.st, rfl⟩ (fun i x xs s => ?_) (fun i s => ?_)
  · rintro ⟨s3, s4, hi, hx, rfl⟩
    obtain ⟨h1, h2⟩ := hx x (.head _)
    simp only [List.length_cons] at hi
    walk_at "ev"
    rw [decide_eq_false (show ¬ (i : Int) = 5 from by omega)]
    walk_at "ev"
    refine needSteps_wp h1 h2 ?_
    exact ⟨_, _, by omega, fun s hs => hx s (.tail _ hs), rfl⟩
  · rintro ⟨s3, s4, hi, hx, rfl⟩
    walk_at "ev"
    exact k


def small (vs : List Val) : Bool := decide (vs.length ≤ 16777216)
theorem small_le {vs : List Val} (h : small vs = true) : vs.length ≤ 16777216 := of_decide_eq_true h
def al : Nat → Val → Bool
  | _ + 1, .non => true
  | _ + 1, .int _ => true
  | _ + 1, .bl _ => true
  | _ + 1, .str s => dat 64 (.str s)
  | n + 1, .lst vs => small vs && vs.all (al n)
  | n + 1, .tup vs => small vs && vs.all (al n)
  | _, _ => false
theorem eqS0 {s : Str} (h : dat 64 (.str s) = true) : fEq (.str s) (.str s) = vB true := by
  unfold fEq
  rw [if_pos ⟨h, h⟩]
  unfold vEq toD
  show some (T.val (.bl (s == s))) = _
  rw [beq_self_eq_true]
theorem al_lst {n : Nat} {vs : List Val} : al (n + 1) (.lst vs) = (small vs && vs.all (al n)) := by rw [al]
theorem al_tup {n : Nat} {vs : List Val} : al (n + 1) (.tup vs) = (small vs && vs.all (al n)) := by rw [al]
theorem alike_wp (n : Nat) : ∀ {v : Val} {hp : List Ob} {Q : T → List Ob → Prop}, al n v = true → Q (.val (.bl true)) hp → wpc (mf__law_alike n) [v, v] hp Q := by
  induction n with
  | zero => intro v hp Q h k; cases v <;> cases h
  | succ n ih =>
    intro v hp Q h k
    show wpc (mBody 3 (m__law_alike (mf__law_alike n))) _ _ _
    rw [e_body]
    unfold m__law_alike
    have go : ∀ vs : List Val, (small vs && vs.all (al n)) = true → vs.length ≤ 16777216 ∧ ∀ i (h : i < vs.length), al n vs[i] = true := fun vs h => by
      rw [Bool.and_eq_true] at h
      exact ⟨small_le h.1, fun i hi => List.all_eq_true.mp h.2 _ (List.getElem_mem hi)⟩
    cases v with
    | non => walk_at "ev"; exact k
    | int i => walk_at "ev"; exact k
    | bl b => walk_at "ev"; exact k
    | str s =>
      walk_at "ev"
      rw [eqS0 h]
      walk_at "ev"
      exact k
    | lst vs =>
      rw [al_lst] at h
      obtain ⟨hl, ha⟩ := go vs h
      walk_at "ev"
      rw [intR_map, List.length_map, List.length_range]
      refine ⟨⟨by omega, by omega⟩, by omega, ?_⟩
      refine wp_cfilt (fun _ : Nat => false) (fun i : Nat => .int (i : Int)) (fun s => ∃ s2 : Sl, s = ⟨hp, [.val (.lst vs), .val (.lst vs), s2]⟩) ⟨_, rfl⟩ (fun i hi s => ?_) (fun s => ?_)
      · rintro ⟨s2, rfl⟩
        have hi : i < vs.length := by have := List.mem_range.mp hi; omega
        walk_at "ev"
        rw [atN hi]
        walk_at "ev"
        rw [atN hi]
        walk_at "ev"
        refine ih (ha i hi) ?_
        walk_at "ev"
        exact ⟨_, rfl⟩
      · rintro ⟨s2, rfl⟩
        rw [List.filter_eq_nil_iff.mpr (fun _ _ z => by cases z)]
        walk_at "ev"
        exact k
    | tup vs =>
      rw [al_tup] at h
      obtain ⟨hl, ha⟩ := go vs h
      walk_at "ev"
      rw [intR_map, List.length_map, List.length_range]
      refine ⟨⟨by omega, by omega⟩, by omega, ?_⟩
      refine wp_cfilt (fun _ : Nat => false) (fun i : Nat => .int (i : Int)) (fun s => ∃ s2 : Sl, s = ⟨hp, [.val (.tup vs), .val (.tup vs), s2]⟩) ⟨_, rfl⟩ (fun i hi s => ?_) (fun s => ?_)
      · rintro ⟨s2, rfl⟩
        have hi : i < vs.length := by have := List.mem_range.mp hi; omega
        walk_at "ev"
        rw [atN hi]
        walk_at "ev"
        rw [atN hi]
        walk_at "ev"
        refine ih (ha i hi) ?_
        walk_at "ev"
        exact ⟨_, rfl⟩
      · rintro ⟨s2, rfl⟩
        rw [List.filter_eq_nil_iff.mpr (fun _ _ z => by cases z)]
        walk_at "ev"
        exact k
    | _ => cases h


end
section
theorem fNe_refl {v : Val} (h : dat 64 v = true) : fNe v v = vB false := by
  unfold fNe
  rw [if_pos ⟨h, h⟩]
  unfold vEq
  rw [PySem.SeqAt.eqv_refl _ (dat_lay 64 v h).1]
  rfl
theorem de_encW {hp : List Ob} {w : Wd} : deref hp (encW w) = encW w := rfl
theorem de_encM {hp : List Ob} {ss : List Step} : deref hp (encM ss) = encM ss := rfl
theorem ixW0 {w : Wd} : fIx (encW w) (.int 0) = some (.val (.tup [.int w.cap, .int w.start, .int w.refill])) := rfl
theorem ixW1 {w : Wd} : fIx (encW w) (.int 1) = some (.val (.tup (w.ms.map encM))) := rfl
theorem wItems_encM {QL : List Val → MS → Prop} {st : MS} {ss : List Step} : wItems QL (encM ss) st = QL (ss.map encS) st := rfl
theorem o_slL {vs : List Val} {lo hi : Option Int} : fSl (.lst vs) lo hi = some (.own (Sm.cutS vs lo hi)) := rfl
theorem o_slT {vs : List Val} {lo hi : Option Int} : fSl (.tup vs) lo hi = some (.val (.tup (Sm.cutS vs lo hi))) := rfl
theorem tyS_str {a : Str} : tyS "str" (.str a) = true := by show (("str" : String) == "str") = true; decide
theorem o_addSt {a b : Str} {Q : T → Prop} : wO (fAdd (.str a) (.str b)) Q = (a.length + b.length ≤ 16777216 ∧ Q (.val (.str (a ++ b)))) := wO_if

/-! texts -/
abbrev num (n : Int) : Str := toString n
def stepL (s : Step) : List Str := [num s.1, num s.2.1, num s.2.2]
def stepT (s : Step) : Str := Txt.join "," (stepL s)
def rowL (ss : List Step) : List Str := "machine" :: ss.map stepT
def rowT (ss : List Step) : Str := Txt.join " " (rowL ss)
def stL (w : Wd) : List Str := ["store", num w.cap, num w.start, num w.refill]
def stT (w : Wd) : Str := Txt.join " " (stL w)
def rowsL (w : Wd) : List Str := stT w :: w.ms.map rowT
def textT (w : Wd) : Str := Txt.join "\n" (rowsL w)
def Chars (p : Nat → Bool) (x : Str) : Prop := ∀ c ∈ TL.tl x, p c = true
def len_le (k : Nat) (x : Str) : Prop := x.length ≤ k
theorem joinL_mem {S : List Nat} {c : Nat} : ∀ {ps : List (List Nat)}, c ∈ TL.joinL S ps → c ∈ S ∨ ∃ p ∈ ps, c ∈ p
  | [], h => nomatch h
  | [p], h => .inr ⟨p, .head _, h⟩
  | p :: q :: r, h => by
    have h : c ∈ p ++ (S ++ TL.joinL S (q :: r)) := h
    rcases List.mem_append.mp h with h | h
    · exact .inr ⟨p, .head _, h⟩
    · rcases List.mem_append.mp h with h | h
      · exact .inl h
      · rcases joinL_mem h with h | ⟨z, hz, h⟩
        · exact .inl h
        · exact .inr ⟨z, .tail _ hz, h⟩
theorem joinL_len {S : List Nat} : ∀ {ps : List (List Nat)}, (TL.joinL S ps).length ≤ (ps.map List.length).sum + ps.length * S.length
  | [] => Nat.zero_le _
  | [p] => by
    show p.length ≤ (p.length + 0) + 1 * S.length
    omega
  | p :: q :: r => by
    show (p ++ (S ++ TL.joinL S (q :: r))).length ≤ _
    have := joinL_len (S := S) (ps := q :: r)
    rw [List.length_append, List.length_append]
    simp only [List.map_cons, List.sum_cons, List.length_cons] at this ⊢
    rw [Nat.add_mul (r.length + 1) 1 S.length]
    omega
theorem chars_join {p : Nat → Bool} {y : Str} {ps : List Str} (hy : Chars p y) (h : ∀ q ∈ ps, Chars p q) : Chars p (Txt.join y ps) := fun c hc => by
  rw [TL.join_eq, TL.tl_join] at hc
  rcases joinL_mem hc with hc | ⟨q, hq, hc⟩
  · exact hy c hc
  · obtain ⟨z, hz, rfl⟩ := List.mem_map.mp hq
    exact h z hz c hc
theorem join_len {y : Str} {ps : List Str} : (Txt.join y ps).length ≤ (ps.map (·.length)).sum + ps.length * y.length := by
  rw [TL.join_eq, TL.len_tl, TL.tl_join]
  have := joinL_len (S := TL.tl y) (ps := ps.map TL.tl)
  rw [List.map_map, List.length_map] at this
  have e : (ps.map (·.length)) = ps.map (List.length ∘ TL.tl) := List.map_congr_left fun x _ => TL.len_tl x
  rw [e, TL.len_tl y]
  exact this
theorem chars_mono {p q : Nat → Bool} (h : ∀ c, p c = true → q c = true) {x : Str} (hx : Chars p x) : Chars q x := fun c hc => h c (hx c hc)
def pDig (c : Nat) : Bool := decide (48 ≤ c) && decide (c ≤ 57)
def pStep (c : Nat) : Bool := pDig c || decide (c = 44)
def pRow (c : Nat) : Bool := pStep c || decide (c = 32) || (decide (97 ≤ c) && decide (c ≤ 122))
def pText (c : Nat) : Bool := pRow c || decide (c = 10)
def In99 (n : Int) : Prop := 0 ≤ n ∧ n ≤ 99
theorem of99 {P : Int → Prop} (h : ∀ k : Fin 100, P ((k.val : Nat) : Int)) {n : Int} (hn : In99 n) : P n := by
  have := h ⟨n.toNat, by have := hn.1; have := hn.2; omega⟩
  rw [show ((n.toNat : Nat) : Int) = n from by have := hn.1; omega] at this
  exact this
theorem num_len {n : Int} (h : In99 n) : (num n).length ≤ 2 ∧ 1 ≤ (num n).length := of99 (P := fun n => (num n).length ≤ 2 ∧ 1 ≤ (num n).length) (by decide +kernel) h
theorem num_strip {n : Int} (h : In99 n) : Txt.stripChars (num n) "0123456789" = "" := of99 (P := fun n => Txt.stripChars (num n) "0123456789" = "") (by decide +kernel) h
theorem num_int {n : Int} (h : In99 n) : PySem.intText? (num n) = some n := of99 (P := fun n => PySem.intText? (num n) = some n) (by decide +kernel) h
theorem num_dig {n : Int} (h : In99 n) : Chars pDig (num n) := fun c hc => List.all_eq_true.mp (of99 (P := fun n => (TL.tl (num n)).all pDig = true) (by decide +kernel) h) c hc
theorem num_zero {n : Int} (h : In99 n) : num n = "0" ∨ ∃ c r, TL.tl (num n) = c :: r ∧ (⟨#[c]⟩ : Str) ≠ "0" := by
  have := of99 (P := fun n => (decide (num n = "0") || match TL.tl (num n) with | [] => false | c :: _ => decide ((⟨#[c]⟩ : Str) ≠ "0")) = true) (by decide +kernel) h
  rw [Bool.or_eq_true] at this
  rcases this with h | h
  · exact .inl (of_decide_eq_true h)
  · right
    cases hh : TL.tl (num n) with
    | nil => rw [hh] at h; cases h
    | cons c r => rw [hh] at h; exact ⟨c, r, rfl, of_decide_eq_true h⟩
def OkStep (s : Step) : Prop := In99 s.1 ∧ In99 s.2.1 ∧ In99 s.2.2
theorem step_chars {s : Step} (h : OkStep s) : Chars pStep (stepT s) := chars_join (fun c hc => List.all_eq_true.mp (show (TL.tl (",":Str)).all pStep = true by decide +kernel) c hc) fun q hq => by
  have hm : ∀ c, pDig c = true → pStep c = true := fun c h => by unfold pStep; rw [h]; rfl
  unfold stepL at hq
  simp only [List.mem_cons, List.not_mem_nil, or_false] at hq
  rcases hq with rfl | rfl | rfl
  · exact chars_mono hm (num_dig h.1)
  · exact chars_mono hm (num_dig h.2.1)
  · exact chars_mono hm (num_dig h.2.2)
theorem str_chars {p : Nat → Bool} {x : Str} (h : (TL.tl x).all p = true) : Chars p x := fun c hc => List.all_eq_true.mp h c hc
theorem row_chars {ss : List Step} (h : ∀ s ∈ ss, OkStep s) : Chars pRow (rowT ss) := chars_join (str_chars (by decide +kernel)) fun q hq => by
  rcases List.mem_cons.mp hq with rfl | hq
  · exact str_chars (by decide +kernel)
  · obtain ⟨s, hs, rfl⟩ := List.mem_map.mp hq
    exact chars_mono (fun c h => by unfold pRow; rw [h]; rfl) (step_chars (h s hs))
def OkW (w : Wd) : Prop := (In99 w.cap ∧ In99 w.start ∧ In99 w.refill) ∧ ∀ m ∈ w.ms, ∀ s ∈ m, OkStep s
theorem st_chars {w : Wd} (h : OkW w) : Chars pRow (stT w) := chars_join (str_chars (by decide +kernel)) fun q hq => by
  have hm : ∀ c, pDig c = true → pRow c = true := fun c h => by unfold pRow pStep; rw [h]; rfl
  unfold stL at hq
  simp only [List.mem_cons, List.not_mem_nil, or_false] at hq
  rcases hq with rfl | rfl | rfl | rfl
  · exact str_chars (by decide +kernel)
  · exact chars_mono hm (num_dig h.1.1)
  · exact chars_mono hm (num_dig h.1.2.1)
  · exact chars_mono hm (num_dig h.1.2.2)
theorem rows_chars {w : Wd} (h : OkW w) : ∀ q ∈ rowsL w, Chars pRow q := fun q hq => by
  rcases List.mem_cons.mp hq with rfl | hq
  · exact st_chars h
  · obtain ⟨m, hm, rfl⟩ := List.mem_map.mp hq
    exact row_chars (h.2 m hm)
theorem text_chars {w : Wd} (h : OkW w) : Chars pText (textT w) := chars_join (str_chars (by decide +kernel)) fun q hq => chars_mono (fun c h => by unfold pText; rw [h]; rfl) (rows_chars h q hq)
theorem not_in {p : Nat → Bool} {x : Str} {c : Nat} (h : Chars p x) (hc : p c = false) : c ∉ TL.tl x := fun z => by rw [h c z] at hc; cases hc
/-! read back -/
theorem split_step {s : Step} (h : OkStep s) : Txt.split (stepT s) "," = stepL s := TL.split_join (s := 44) (S := []) (by decide +kernel) (by decide +kernel) (fun e => nomatch e) fun q hq => by
  unfold stepL at hq
  simp only [List.mem_cons, List.not_mem_nil, or_false] at hq
  rcases hq with rfl | rfl | rfl
  · exact not_in (num_dig h.1) rfl
  · exact not_in (num_dig h.2.1) rfl
  · exact not_in (num_dig h.2.2) rfl
theorem split_row {ss : List Step} (h : ∀ s ∈ ss, OkStep s) : Txt.split (rowT ss) " " = rowL ss := TL.split_join (s := 32) (S := []) (by decide +kernel) (by decide +kernel) (fun e => nomatch e) fun q hq => by
  rcases List.mem_cons.mp hq with rfl | hq
  · decide +kernel
  · obtain ⟨s, hs, rfl⟩ := List.mem_map.mp hq
    exact not_in (step_chars (h s hs)) rfl
theorem split_st {w : Wd} (h : OkW w) : Txt.split (stT w) " " = stL w := TL.split_join (s := 32) (S := []) (by decide +kernel) (by decide +kernel) (fun e => nomatch e) fun q hq => by
  unfold stL at hq
  simp only [List.mem_cons, List.not_mem_nil, or_false] at hq
  rcases hq with rfl | rfl | rfl | rfl
  · decide +kernel
  · exact not_in (num_dig h.1.1) rfl
  · exact not_in (num_dig h.1.2.1) rfl
  · exact not_in (num_dig h.1.2.2) rfl
theorem split_text {w : Wd} (h : OkW w) : Txt.split (textT w) "\n" = rowsL w := TL.split_join (s := 10) (S := []) (by decide +kernel) (by decide +kernel) (fun e => nomatch e) fun q hq => not_in (rows_chars h q hq) rfl
/-! how long -/
theorem step_len {s : Step} (h : OkStep s) : (stepT s).length ≤ 9 := by
  refine Nat.le_trans join_len ?_
  have h1 := (num_len h.1).1
  have h2 := (num_len h.2.1).1
  have h3 := (num_len h.2.2).1
  show (num s.1).length + ((num s.2.1).length + ((num s.2.2).length + 0)) + 3 * 1 ≤ 9
  omega
theorem sum_len_le {ps : List Str} {k : Nat} (h : ∀ p ∈ ps, p.length ≤ k) : (ps.map (·.length)).sum ≤ ps.length * k := by
  induction ps with
  | nil => exact Nat.zero_le _
  | cons p ps ih =>
    have := ih fun q hq => h q (.tail _ hq)
    have := h p (.head _)
    rw [List.map_cons, List.sum_cons, List.length_cons, Nat.add_mul]
    omega
theorem row_len {ss : List Step} (h : ∀ s ∈ ss, OkStep s) (hl : ss.length ≤ 6) : (rowT ss).length ≤ 100 := by
  refine Nat.le_trans join_len ?_
  have h1 := sum_len_le (ps := ss.map stepT) (k := 9) fun p hp => by
    obtain ⟨s, hs, rfl⟩ := List.mem_map.mp hp
    exact step_len (h s hs)
  unfold rowL
  rw [List.map_cons, List.sum_cons, List.length_cons]
  rw [List.length_map] at h1 ⊢
  show 7 + _ + (ss.length + 1) * 1 ≤ 100
  omega
theorem st_len {w : Wd} (h : OkW w) : (stT w).length ≤ 100 := by
  refine Nat.le_trans join_len ?_
  have h1 := (num_len h.1.1).1
  have h2 := (num_len h.1.2.1).1
  have h3 := (num_len h.1.2.2).1
  show 5 + ((num w.cap).length + ((num w.start).length + ((num w.refill).length + 0))) + 4 * 1 ≤ 100
  omega
theorem okW {w : Wd} (h : w.Ok) : OkW w := by
  have := h.c0; have := h.c1; have := h.s0; have := h.s1; have := h.r0; have := h.r1
  refine ⟨⟨⟨by omega, by omega⟩, ⟨by omega, by omega⟩, ⟨by omega, by omega⟩⟩, fun m hm s hs => ?_⟩
  obtain ⟨h1, h2, h3, h4, h5, h6⟩ := (h.st m hm).2 s hs
  exact ⟨⟨by omega, by omega⟩, ⟨by omega, by omega⟩, ⟨by omega, by omega⟩⟩
theorem rows_len {w : Wd} (h : w.Ok) : ∀ q ∈ rowsL w, q.length ≤ 100 := fun q hq => by
  rcases List.mem_cons.mp hq with rfl | hq
  · exact st_len (okW h)
  · obtain ⟨m, hm, rfl⟩ := List.mem_map.mp hq
    exact row_len ((okW h).2 m hm) (h.st m hm).1
theorem text_len {w : Wd} (h : w.Ok) : (textT w).length ≤ 1000 := by
  refine Nat.le_trans join_len ?_
  have h1 := sum_len_le (rows_len h)
  have h2 : (rowsL w).length = w.ms.length + 1 := by unfold rowsL; rw [List.length_cons, List.length_map]
  have h3 := h.n
  rw [h2] at h1 ⊢
  show _ + (w.ms.length + 1) * 1 ≤ 1000
  omega

end
section
local macro_rules | `(tactic| walk_at "ev") => `(tactic| simp (maxSteps := 1000000) -implicitDefEqProofs only [e_skip, e_bad, e_expr, e_seq, wNx_nx, wNx_brk, wNx_cnt, wNx_ret, wLp_nx, wLp_brk, wLp_cnt, wLp_ret, e_pure, e_ret, wGive_val, wGive_own, wGive_loc, e_if, e_ifE, e_not, e_and, e_or, e_tst, e_bool, e_yes, wB_bl, wI_int, wO_some, e_c, e_v, e_op1, e_op2, e_a0, e_a1, e_cb, e_chain, e_andV, e_orV, e_notV, e_take_val, e_take_own, e_take_loc, e_takes0, e_takes1, e_tup, e_lst, wBox_own, e_box, e_call, wEnd_nx, wEnd_ret, e_asg, e_gn_val, e_gn_own, e_gn_loc, e_gs0, e_gs1, e_gt, e_gsub, e_put_ref, e_put_loc, e_aug, e_for, e_loop0, e_items, wItems_tup, wItems_ktup, wItems_lst, wItems_scr, e_rng1, e_lrng, wEnu_tup, wEnu_lst, e_enum, e_ch, e_ch_loc, isL_loc, wDic_ref, e_dnew, e_dget, e_din, e_dput, e_comp, e_cloop0, view_val, view_own, view_loc, de_non, de_bl, de_int, de_str, de_tup, de_lst, de_scr, de_ty, de_ref, vw0, vw1, op2_some, op1_some, o_addI, o_addT, o_addL, o_i2, o_mod, o_div, o_pow, o_mulI, wIf_t, wIf_f, Int.reducePow, Int.reduceNeg, Int.reduceLT, Int.reduceLE, Int.reduceEq, Int.reduceNe, ne_eq, not_false_eq_true, Int.reduceToNat, true_or, or_true, and_self, cst0, cst1, cst2, cst3, cst4, cst5, cst6, cst7, cst8, cst9, eq_self, Int.reduceAdd, Int.reduceSub, Int.reduceMul, Nat.reducePow, o_c, o_ixL, o_ixT, at0, at1, at2, at3, at4, o_lenL, o_lenT, o_lenS, o_listL, o_listT, o_listS, o_tupL, o_tupT, o_max2, o_min2, o_eqI, o_neI, o_isN, o_notN, ch_app, map_some, Sm.isNon, isi1, isi2, tyN_NoneType, tyN_bool, tyN_int, tyN_str, tyN_tuple, tyN_list, okTy_bool, isTy_NoneType_bool, isTy_bool_bool, isTy_int_bool, isTy_str_bool, isTy_tuple_bool, isTy_list_bool, okTy_int, isTy_NoneType_int, isTy_bool_int, isTy_int_int, isTy_str_int, isTy_tuple_int, isTy_list_int, okTy_str, isTy_NoneType_str, isTy_bool_str, isTy_int_str, isTy_str_str, isTy_tuple_str, isTy_list_str, okTy_tuple, isTy_NoneType_tuple, isTy_bool_tuple, isTy_int_tuple, isTy_str_tuple, isTy_tuple_tuple, isTy_list_tuple, okTy_list, isTy_NoneType_list, isTy_bool_list, isTy_int_list, isTy_str_list, isTy_tuple_list, isTy_list_list, bind_some, o_eqB, o_neB, o_eqNN, o_eq00, get_end, set_end, key_encN, o_notInN,  beq_self_eq_true, Bool.or_false, Bool.or_true, Bool.or_self, Bool.false_or, Bool.true_or, List.getElem?_cons_zero, List.getElem?_cons_succ, List.set_cons_zero, List.set_cons_succ, List.length_cons, List.length_nil, List.map_cons, List.map_nil, List.append_nil, List.nil_append, List.cons_append, Nat.zero_add, Nat.reduceAdd, Nat.reduceLeDiff, Nat.reduceLT, Nat.reduceSub, List.replicate, true_and, and_true, if_true, if_false, ite_true, ite_false, Bool.not_true, Bool.not_false, reduceCtorEq, decide_true, decide_false, decide_eq_true_eq, Bool.not_eq_true', decide_eq_false_iff_not, e_mt, e_sl, e_o0, e_o1, o_slL, o_slT, ixW0, ixW1, de_encW, de_encM, wItems_encM, tyS_str, o_addSt, List.length_set, List.length_map, List.length_append, wipeS, unwipe])

theorem strs_map (l : List Str) : strsOf (l.map .str) = some l := by
  induction l with
  | nil => rfl
  | cons x l ih => rw [List.map_cons]; unfold strsOf; rw [ih]; rfl
theorem o_join {a : Str} {ys : List Str} (h : (ys.map (·.length)).sum + ys.length * a.length ≤ 16777216) : fJoin (.str a) [.lst (ys.map .str)] = some (.val (.str (Txt.join a ys))) := by
  show (strsOf (ys.map .str)).bind _ = _
  rw [strs_map]
  show (if _ then _ else _) = _
  rw [if_pos h]
theorem o_split {a b : Str} (hb : (b.length == 0) = false) (ha : a.length + 2 ≤ 16777216) : fSplit (.str a) [.str b] = some (.own ((Txt.split a b).map .str)) := by
  show (if _ then _ else _) = _
  rw [if_pos ⟨hb, ha⟩]
theorem o_str {n : Int} (h : In99 n) : fStr [.int n] = some (.val (.str (num n))) := by
  show (if n.natAbs.log2 < 1920 then some (T.val (.str (toString n : String))) else none) = _
  have hl : n.natAbs.log2 < 1920 := by
    have h1 : n.natAbs ≤ 99 := by have := h.1; have := h.2; omega
    have h2 := @Nat.log2_lt n.natAbs 1920
    by_cases h0 : n.natAbs = 0
    · rw [h0]; decide
    · rw [h2 h0]
      exact Nat.lt_of_le_of_lt h1 (Nat.lt_of_lt_of_le (by decide : 99 < 2 ^ 7) (Nat.pow_le_pow_right (by decide) (by decide)))
  rw [if_pos hl]
theorem steps_len {s : Step} (h : OkStep s) : ((stepL s).map (·.length)).sum + (stepL s).length * (Str.length ",") ≤ 16777216 := by
  have h1 := (num_len h.1).1
  have h2 := (num_len h.2.1).1
  have h3 := (num_len h.2.2).1
  show (num s.1).length + ((num s.2.1).length + ((num s.2.2).length + 0)) + 3 * 1 ≤ _
  omega
theorem sts_len {w : Wd} (h : OkW w) : ((stL w).map (·.length)).sum + (stL w).length * (Str.length " ") ≤ 16777216 := by
  have h1 := (num_len h.1.1).1
  have h2 := (num_len h.1.2.1).1
  have h3 := (num_len h.1.2.2).1
  show 5 + ((num w.cap).length + ((num w.start).length + ((num w.refill).length + 0))) + 4 * 1 ≤ _
  omega
theorem rowl_len {ss : List Step} (h : ∀ s ∈ ss, OkStep s) (hl : ss.length ≤ 6) : ((rowL ss).map (·.length)).sum + (rowL ss).length * (Str.length " ") ≤ 16777216 := by
  have h1 := sum_len_le (ps := ss.map stepT) (k := 9) fun p hp => by
    obtain ⟨s, hs, rfl⟩ := List.mem_map.mp hp
    exact step_len (h s hs)
  unfold rowL
  rw [List.map_cons, List.sum_cons, List.length_cons]
  rw [List.length_map] at h1 ⊢
  show 7 + _ + (ss.length + 1) * 1 ≤ _
  omega
theorem rowsl_len {w : Wd} (h : w.Ok) : ((rowsL w).map (·.length)).sum + (rowsL w).length * (Str.length "\n") ≤ 16777216 := by
  have h1 := sum_len_le (rows_len h)
  have h2 : (rowsL w).length = w.ms.length + 1 := by unfold rowsL; rw [List.length_cons, List.length_map]
  have h3 := h.n
  rw [h2] at h1 ⊢
  show _ + (w.ms.length + 1) * 1 ≤ _
  omega
def l3 (a : Step) : List Int := [a.1, a.2.1, a.2.2]
theorem encS3 (s : Step) : encS s = .tup ((l3 s).map .int) := rfl
theorem l3_ok {s : Step} (h : OkStep s) : ∀ n ∈ l3 s, In99 n := fun n hn => by
  unfold l3 at hn
  simp only [List.mem_cons, List.not_mem_nil, or_false] at hn
  rcases hn with rfl | rfl | rfl
  · exact h.1
  · exact h.2.1
  · exact h.2.2
theorem ltext_wp {w : Wd} {hp : List Ob} {Q : T → List Ob → Prop} (hw : w.Ok) (k : Q (.val (.str (textT w))) hp) : wpc mf__law_text [encW w] hp Q := by
  unfold mf__law_text
  rw [e_body]
  unfold m__law_text
  walk_at "ev"
  have ho := okW hw
  rw [show [Val.int w.cap, .int w.start, .int w.refill] = (l3 (w.cap, w.start, w.refill)).map .int from rfl]
  refine wp_cfilt (enc := Val.int) (fun _ => true) (fun n => .str (num n)) (fun st => ∃ s3 : Sl, st = ⟨hp, [.val (encW w), .no, .no, s3, .no]⟩) ⟨_, rfl⟩ (fun n hn st => ?_) (fun st => ?_)
  · rintro ⟨s5, rfl⟩
    walk_at "ev"
    rw [o_str (l3_ok (s := (w.cap, w.start, w.refill)) ho.1 n hn)]
    walk_at "ev"
    exact ⟨_, rfl⟩
  rintro ⟨s3, rfl⟩
  rw [List.filter_eq_self.mpr (fun _ _ => rfl)]
  walk_at "ev"
  have hsl : (((([num w.cap, num w.start, num w.refill] : List Str).map (·.length)).sum + ([num w.cap, num w.start, num w.refill] : List Str).length * (Str.length " "))) ≤ 16777216 := by
    have h1 := (num_len ho.1.1).1
    have h2 := (num_len ho.1.2.1).1
    have h3 := (num_len ho.1.2.2).1
    show (num w.cap).length + ((num w.start).length + ((num w.refill).length + 0)) + 3 * 1 ≤ _
    omega
  rw [show (l3 (w.cap, w.start, w.refill)).map (fun n => Val.str (num n)) = ([num w.cap, num w.start, num w.refill] : List Str).map .str from rfl, o_join hsl]
  walk_at "ev"
  refine ⟨by have := join_len (y := " ") (ps := [num w.cap, num w.start, num w.refill]); have h6 : (Str.ofString "store ").length = 6 := by decide +kernel
             have h1 := (num_len ho.1.1).1
             have h2 := (num_len ho.1.2.1).1
             have h3 := (num_len ho.1.2.2).1
             have : (Txt.join " " [num w.cap, num w.start, num w.refill]).length ≤ (num w.cap).length + ((num w.start).length + ((num w.refill).length + 0)) + 3 * 1 := this
             omega, ?_⟩
  rw [show (Str.ofString "store ") ++ Txt.join " " [num w.cap, num w.start, num w.refill] = stT w from by
    unfold stT stL
    rw [TL.join_eq, TL.join_eq, show Str.ofString "store " = Str.ofString "store" ++ Str.ofString " " from by decide +kernel]
    rfl]
  have hn := hw.n
  refine wp_loop (fun l st => ∃ (ps : List (List Step)) (s2 s3 s4 : Sl), ps ++ l = w.ms ∧ (∀ m ∈ l, m.length ≤ 6 ∧ ∀ s ∈ m, OkStep s) ∧ st = ⟨hp, [.val (encW w), .own ((stT w :: ps.map rowT).map .str), s2, s3, s4]⟩)
    ⟨[], _, _, _, rfl, fun m hm => ⟨(hw.st m hm).1, ho.2 m hm⟩, rfl⟩ (fun m l st => ?_) (fun st => ?_)
  · rintro ⟨ps, s2, s3, s4, e, hm, rfl⟩
    obtain ⟨hm6, hms⟩ := hm m (.head _)
    have hps : ps.length ≤ 5 := by
      have := congrArg List.length e
      rw [List.length_append] at this
      omega
    walk_at "ev"
    refine ⟨by omega, ?_⟩
    refine wp_cfilt (enc := encS) (fun _ => true) (fun s => .str (stepT s)) (fun st => ∃ s3 s4 : Sl, st = ⟨hp, [.val (encW w), .own ((stT w :: ps.map rowT).map .str), .val (encM m), s3, s4]⟩) ⟨_, _, rfl⟩ (fun s hs st => ?_) (fun st => ?_)
    · rintro ⟨s5, s6, rfl⟩
      have hso := hms s hs
      rw [encS3]
      walk_at "ev"
      refine ⟨by show 3 ≤ _; omega, ?_⟩
      refine wp_cfilt (enc := Val.int) (fun _ => true) (fun n => .str (num n)) (fun st => ∃ s5 : Sl, st = ⟨hp, [.val (encW w), .own ((stT w :: ps.map rowT).map .str), .val (encM m), s5, .val (.tup ((l3 s).map .int))]⟩) ⟨_, rfl⟩ (fun n hn st => ?_) (fun st => ?_)
      · rintro ⟨s5, rfl⟩
        walk_at "ev"
        rw [o_str (l3_ok hso n hn)]
        walk_at "ev"
        exact ⟨_, rfl⟩
      rintro ⟨s5, rfl⟩
      rw [List.filter_eq_self.mpr (fun _ _ => rfl)]
      rw [show (l3 s).map (fun n => Val.str (num n)) = (stepL s).map .str from rfl]
      walk_at "ev"
      rw [o_join (steps_len hso)]
      walk_at "ev"
      exact ⟨rfl, _, _, rfl⟩
    rintro ⟨s5, s6, rfl⟩
    rw [List.filter_eq_self.mpr (fun _ _ => rfl)]
    walk_at "ev"
    refine ⟨by omega, ?_⟩
    rw [show Val.str "machine" :: m.map (fun s => Val.str (stepT s)) = (rowL m).map .str from by unfold rowL; rw [List.map_cons, List.map_map]; rfl, o_join (rowl_len hms hm6)]
    walk_at "ev"
    refine ⟨by omega, ?_⟩
    rw [show (ps.map rowT).map Val.str ++ [Val.str (Txt.join " " (rowL m))] = ((ps ++ [m]).map rowT).map Val.str from by rw [List.map_append, List.map_append]; rfl]
    exact ⟨ps ++ [m], _, _, _, by rw [List.append_assoc]; exact e, fun x hx => hm x (.tail _ hx), rfl⟩
  · rintro ⟨ps, s4, s5, s6, e, hm, rfl⟩
    rw [List.append_nil] at e
    subst e
    walk_at "ev"
    rw [show Val.str (stT w) :: (w.ms.map rowT).map Val.str = (rowsL w).map .str from rfl, o_join (rowsl_len hw)]
    walk_at "ev"
    exact k
/-! reading -/
theorem bools_map {α : Type} (l : List α) (f : α → Bool) : boolsOf (l.map fun x => Val.bl (f x)) = some (l.map f) := by
  induction l with
  | nil => rfl
  | cons x l ih => rw [List.map_cons]; unfold boolsOf; rw [ih]; rfl
theorem dat_num {n : Int} (h : In99 n) : dat 64 (.str (num n)) = true := by
  unfold dat
  show PyData.strOk _ = true
  unfold PyData.strOk
  rw [← Array.all_toList]
  exact List.all_eq_true.mpr fun c hc => by
    have := num_dig h c hc
    unfold pDig at this
    rw [Bool.and_eq_true, decide_eq_true_iff, decide_eq_true_iff] at this
    exact decide_eq_true (by omega)
theorem isnum_wp {n : Int} {hp : List Ob} {Q : T → List Ob → Prop} (h : In99 n) (k : Q (.val (.bl true)) hp) : wpc mf_is_number [.str (num n)] hp Q := by
  unfold mf_is_number
  rw [e_body]
  unfold m_is_number
  walk_at "ev"
  obtain ⟨h1, h2⟩ := num_len h
  have hlen : fLen [.str (num n)] = vI (num n).length := by
    show (if (num n).length ≤ 16777216 then vI (num n).length else none) = _
    rw [if_pos (by omega)]
  rw [hlen]
  walk_at "ev"
  rw [decide_eq_true (show (1 : Int) ≤ ((num n).length : Int) by omega), decide_eq_true (show ((num n).length : Int) ≤ 2 by omega)]
  walk_at "ev"
  have hstrip : fStrip (.str (num n)) [.str "0123456789"] = some (.val (.str "")) := by
    show (if (num n).length ≤ 16777216 then some (T.val (.str (Txt.stripChars (num n) "0123456789"))) else none) = _
    rw [if_pos (by omega), num_strip h]
  rw [hstrip]
  walk_at "ev"
  rw [show fEq (Val.str "") (.str "") = vB true from eqS0 (by unfold dat; decide +kernel)]
  walk_at "ev"
  have hz : dat 64 (.str "0") = true := by unfold dat; decide +kernel
  rcases num_zero h with e | ⟨c, r, e1, e2⟩
  · rw [e, eqS0 hz]
    walk_at "ev"
    exact k
  · have hne : ∀ a b : Str, dat 64 (.str a) = true → dat 64 (.str b) = true → fEq (.str a) (.str b) = vB (decide (a = b)) ∧ fNe (.str a) (.str b) = vB (!decide (a = b)) := fun a b ha hb => by
      unfold fEq fNe
      rw [if_pos ⟨ha, hb⟩, if_pos ⟨ha, hb⟩]
      have : vEq (.str a) (.str b) = decide (a = b) := by
        show (a == b) = _
        by_cases h : a = b
        · subst h; rw [beq_self_eq_true, decide_eq_true rfl]
        · rw [beq_eq_false_iff_ne.mpr h, decide_eq_false h]
      rw [this]
      exact ⟨rfl, rfl⟩
    have hc : dat 64 (.str ⟨#[c]⟩) = true := by
      unfold dat
      show PyData.strOk _ = true
      unfold PyData.strOk
      rw [← Array.all_toList]
      exact List.all_eq_true.mpr fun d hd => by
        rw [List.mem_singleton.mp hd]
        have := num_dig h c (by rw [e1]; exact .head _)
        unfold pDig at this
        rw [Bool.and_eq_true, decide_eq_true_iff, decide_eq_true_iff] at this
        exact decide_eq_true (by omega)
    rw [(hne _ _ (dat_num h) hz).1]
    walk_at "ev"
    refine wIf_sp (fun _ => k) (fun _ => ?_)
    have hix : fIx (.str (num n)) (.int 0) = some (.val (.str ⟨#[c]⟩)) := by
      show (if (num n).length ≤ 16777216 then (atI (num n).cps.toList 0).map (fun c => T.val (.str ⟨#[c]⟩)) else none) = _
      rw [if_pos (by omega), show (num n).cps.toList = c :: r from e1, at0]
      rfl
    walk_at "ev"
    rw [hix]
    walk_at "ev"
    rw [(hne _ _ hc hz).2, decide_eq_false e2]
    walk_at "ev"
    exact k
theorem numbers_wp {s : Step} {hp : List Ob} {Q : T → List Ob → Prop} (h : OkStep s) (k : Q (.val (encS s)) hp) : wpc mf_numbers_in [.lst ((stepL s).map .str)] hp Q := by
  unfold mf_numbers_in
  rw [e_body]
  unfold m_numbers_in
  rw [show (stepL s).map Val.str = (l3 s).map fun n => Val.str (num n) from rfl]
  walk_at "ev"
  rw [show ((l3 s).length : Int) = 3 from rfl]
  walk_at "ev"
  refine ⟨by show 3 ≤ _; omega, ?_⟩
  refine wp_cfilt (enc := fun n => Val.str (num n)) (fun _ => true) (fun n => .bl true) (fun st => ∃ s1 : Sl, st = ⟨hp, [.val (.lst ((l3 s).map fun n => Val.str (num n))), s1]⟩) ⟨_, rfl⟩ (fun n hn st => ?_) (fun st => ?_)
  · rintro ⟨s1, rfl⟩
    walk_at "ev"
    refine isnum_wp (l3_ok h n hn) ?_
    walk_at "ev"
    exact ⟨_, rfl⟩
  rintro ⟨s1, rfl⟩
  rw [List.filter_eq_self.mpr (fun _ _ => rfl)]
  rw [show fAllB [.lst ((l3 s).map fun n => Val.bl true)] = some (.val (.bl true)) from rfl]
  walk_at "ev"
  refine ⟨by show 3 ≤ _; omega, ?_⟩
  refine wp_cfilt (enc := fun n => Val.str (num n)) (fun _ => true) (fun n => .int n) (fun st => ∃ s1 : Sl, st = ⟨hp, [.val (.lst ((l3 s).map fun n => Val.str (num n))), s1]⟩) ⟨_, rfl⟩ (fun n hn st => ?_) (fun st => ?_)
  · rintro ⟨s1, rfl⟩
    walk_at "ev"
    have hn' := l3_ok h n hn
    have hint : fInt [.str (num n)] = vI n := by
      show ((PySem.intText? (num n)).bind fun n' => if (num n).length ≤ 640 then vI n' else none) = _
      rw [num_int hn']
      show (if (num n).length ≤ 640 then vI n else none) = _
      rw [if_pos (by have := (num_len hn').1; omega)]
    rw [hint]
    walk_at "ev"
    exact ⟨_, rfl⟩
  rintro ⟨s1, rfl⟩
  rw [List.filter_eq_self.mpr (fun _ _ => rfl)]
  walk_at "ev"
  exact k
theorem cut1 {xs : List Val} : Sm.cutS xs (some 1) none = xs.drop 1 := by
  unfold Sm.cutS
  rw [HT.sIx_none, show HT.sIx xs.length 0 (some 1) = min 1 xs.length from HT.sIx_nat xs.length 0 1]
  cases xs with
  | nil => rfl
  | cons x xs =>
    rw [show min 1 (x :: xs).length = 1 from by rw [List.length_cons]; omega]
    exact List.take_of_length_le (by rw [List.length_drop]; exact Nat.le_refl _)
theorem read_wp {w : Wd} {hp : List Ob} {Q : T → List Ob → Prop} (hw : w.Ok) (k : Q (.val (encW w)) hp) : wpc mf_read [.str (textT w)] hp Q := by
  unfold mf_read
  rw [e_body]
  unfold m_read
  have ho := okW hw
  have hn := hw.n
  have htl := text_len hw
  walk_at "ev"
  rw [o_split (by decide +kernel) (by omega), split_text ho]
  walk_at "ev"
  have hrl : (rowsL w).length = w.ms.length + 1 := by unfold rowsL; rw [List.length_cons, List.length_map]
  refine ⟨by omega, ?_⟩
  refine wp_cfilt (enc := Val.str) (fun _ => true) (fun q => .lst ((Txt.split q " ").map .str)) (fun st => ∃ s7 : Sl, st = ⟨hp, [.val (.str (textT w)), .no, .no, .no, .no, .no, .no, s7, .no]⟩) ⟨_, rfl⟩ (fun q hq st => ?_) (fun st => ?_)
  · rintro ⟨s7, rfl⟩
    walk_at "ev"
    have := rows_len hw q hq
    rw [o_split (by decide +kernel) (by omega)]
    walk_at "ev"
    exact ⟨_, rfl⟩
  rintro ⟨s7, rfl⟩
  rw [List.filter_eq_self.mpr (fun _ _ => rfl)]
  have hrows : (rowsL w).map (fun q => Val.lst ((Txt.split q " ").map .str)) = .lst ((stL w).map .str) :: w.ms.map fun m => .lst ((rowL m).map .str) := by
    unfold rowsL
    rw [List.map_cons, split_st ho, List.map_map]
    congr 1
    refine List.map_congr_left fun m hm => ?_
    show Val.lst ((Txt.split (rowT m) " ").map .str) = _
    rw [split_row (ho.2 m hm)]
  rw [hrows]
  walk_at "ev"
  have hst : (stL w).map Val.str = .str "store" :: (stepL (w.cap, w.start, w.refill)).map .str := rfl
  rw [hst]
  walk_at "ev"
  have hds : dat 64 (.str "store") = true := by unfold dat; decide +kernel
  rw [fNe_refl hds]
  walk_at "ev"
  rw [cut1]
  rw [show List.drop 1 (Val.str "store" :: (stepL (w.cap, w.start, w.refill)).map Val.str) = (stepL (w.cap, w.start, w.refill)).map Val.str from rfl]
  refine numbers_wp (s := (w.cap, w.start, w.refill)) ho.1 ?_
  unfold encS
  walk_at "ev"
  rw [cut1]
  rw [show List.drop 1 (Val.lst (Val.str "store" :: (stepL (w.cap, w.start, w.refill)).map Val.str) :: w.ms.map fun m => Val.lst ((rowL m).map .str)) = w.ms.map fun m => Val.lst ((rowL m).map .str) from rfl]
  generalize hRW : (Val.lst (Val.str "store" :: (stepL (w.cap, w.start, w.refill)).map Val.str) :: w.ms.map fun m => Val.lst ((rowL m).map .str)) = RW at *
  refine wp_loopE (enc := fun m : List Step => Val.lst ((rowL m).map .str)) (fun i l st => ∃ (ps : List (List Step)) (s3 s4 s5 s7 s8 : Sl), ps ++ l = w.ms ∧ (∀ m ∈ l, m.length ≤ 6 ∧ ∀ s ∈ m, OkStep s) ∧ st = ⟨hp, [.val (.str (textT w)), .own RW, .own (ps.map encM), s3, s4, s5, .no, s7, s8]⟩)
    ⟨[], _, _, _, _, _, rfl, fun m hm => ⟨(hw.st m hm).1, ho.2 m hm⟩, rfl⟩ (fun i m l st => ?_) (fun i st => ?_)
  · rintro ⟨ps, s3, s4, s5, s7, s8, e, hm, rfl⟩
    obtain ⟨hm6, hms⟩ := hm m (.head _)
    have hps : ps.length ≤ 5 := by
      have := congrArg List.length e
      rw [List.length_append] at this
      omega
    rw [show (rowL m).map Val.str = .str "machine" :: m.map fun s => .str (stepT s) from by unfold rowL; rw [List.map_cons, List.map_map]; rfl]
    walk_at "ev"
    rw [cut1]
    rw [show List.drop 1 (Val.str "machine" :: m.map fun s => Val.str (stepT s)) = m.map fun s => Val.str (stepT s) from rfl]
    refine ⟨by rw [List.length_map]; omega, ?_⟩
    refine wp_cfilt (enc := fun s => Val.str (stepT s)) (fun _ => true) encS (fun st => ∃ s8 : Sl, st = ⟨hp, [.val (.str (textT w)), .own RW, .own (ps.map encM), .val (.int i), .val (.lst (.str "machine" :: m.map fun s => .str (stepT s))), s5, .no, s7, s8]⟩) ⟨_, rfl⟩ (fun s hs st => ?_) (fun st => ?_)
    · rintro ⟨s8, rfl⟩
      have hso := hms s hs
      walk_at "ev"
      have := step_len hso
      rw [o_split (by decide +kernel) (by omega), split_step hso]
      walk_at "ev"
      refine numbers_wp hso ?_
      walk_at "ev"
      exact ⟨_, rfl⟩
    rintro ⟨s8, rfl⟩
    rw [List.filter_eq_self.mpr (fun _ _ => rfl)]
    walk_at "ev"
    rw [fNe_refl (show dat 64 (.str "machine") = true by unfold dat; decide +kernel)]
    walk_at "ev"
    have hin : fInD false .non (.lst (m.map encS)) = vB false := by
      have hd : dat 64 (.lst (m.map encS)) = true := dat_lst (n := 63) fun v hv => by
        obtain ⟨s, _, rfl⟩ := List.mem_map.mp hv
        rw [encS3]
        exact dat_tup (n := 62) fun v hv => by
          obtain ⟨n, _, rfl⟩ := List.mem_map.mp hv
          exact dat_int
      show (if dat 64 Val.non = true ∧ dat 64 (.lst (m.map encS)) = true then vB (inD .non (m.map encS)) else none) = _
      rw [if_pos ⟨by unfold dat; rfl, hd⟩]
      have : inD .non (m.map encS) = false := by
        unfold inD
        rw [List.any_map, List.any_eq_false]
        intro s _ z
        exact Bool.noConfusion z
      rw [this]
    rw [hin]
    walk_at "ev"
    refine ⟨by omega, ?_⟩
    rw [show ps.map encM ++ [Val.tup (m.map encS)] = (ps ++ [m]).map encM from by rw [List.map_append]; rfl]
    exact ⟨ps ++ [m], _, _, _, _, _, by rw [List.append_assoc]; exact e, fun x hx => hm x (.tail _ hx), rfl⟩
  · rintro ⟨ps, s3, s4, s5, s7, s8, e, hm, rfl⟩
    rw [List.append_nil] at e
    subst e
    rw [← hRW]
    walk_at "ev"
    rw [cut1]
    rw [show List.drop 1 (Val.str "store" :: (stepL (w.cap, w.start, w.refill)).map Val.str) = (stepL (w.cap, w.start, w.refill)).map Val.str from rfl]
    refine numbers_wp (s := (w.cap, w.start, w.refill)) ho.1 ?_
    walk_at "ev"
    have hwe : Val.tup [encS (w.cap, w.start, w.refill), .tup (w.ms.map encM)] = encW w := rfl
    rw [hwe]
    refine needWorld_wp hw ?_
    walk_at "ev"
    exact k


end
section
def isD (c : Nat) : Bool := decide (48 ≤ c) && decide (c ≤ 57)
theorem strip1 : ∀ a : Fin 128, decide (Txt.stripChars ⟨#[a.val]⟩ "0123456789" = "") = isD a.val := by decide +kernel
theorem strip2 : ∀ a : Fin 128, ∀ b : Fin 128, decide (Txt.stripChars ⟨#[a.val, b.val]⟩ "0123456789" = "") = (isD a.val && isD b.val) := by decide +kernel
theorem int2 : ∀ a : Fin 10, ∀ b : Fin 10, decide (PySem.intText? ⟨#[48 + a.val, 48 + b.val]⟩ = some (((10 * a.val + b.val : Nat)) : Int)) = true := by decide +kernel
theorem int1 : ∀ a : Fin 10, decide (PySem.intText? ⟨#[48 + a.val]⟩ = some ((a.val : Nat) : Int)) = true := by decide +kernel

end
section
local macro_rules | `(tactic| walk_at "ev") => `(tactic| simp (maxSteps := 1000000) -implicitDefEqProofs only [e_skip, e_bad, e_expr, e_seq, wNx_nx, wNx_brk, wNx_cnt, wNx_ret, wLp_nx, wLp_brk, wLp_cnt, wLp_ret, e_pure, e_ret, wGive_val, wGive_own, wGive_loc, e_if, e_ifE, e_not, e_and, e_or, e_tst, e_bool, e_yes, wB_bl, wI_int, wO_some, e_c, e_v, e_op1, e_op2, e_a0, e_a1, e_cb, e_chain, e_andV, e_orV, e_notV, e_take_val, e_take_own, e_take_loc, e_takes0, e_takes1, e_tup, e_lst, wBox_own, e_box, e_call, wEnd_nx, wEnd_ret, e_asg, e_gn_val, e_gn_own, e_gn_loc, e_gs0, e_gs1, e_gt, e_gsub, e_put_ref, e_put_loc, e_aug, e_for, e_loop0, e_items, wItems_tup, wItems_ktup, wItems_lst, wItems_scr, e_rng1, e_lrng, wEnu_tup, wEnu_lst, e_enum, e_ch, e_ch_loc, isL_loc, wDic_ref, e_dnew, e_dget, e_din, e_dput, e_comp, e_cloop0, view_val, view_own, view_loc, de_non, de_bl, de_int, de_str, de_tup, de_lst, de_scr, de_ty, de_ref, vw0, vw1, op2_some, op1_some, o_addI, o_addT, o_addL, o_i2, o_mod, o_div, o_pow, o_mulI, wIf_t, wIf_f, Int.reducePow, Int.reduceNeg, Int.reduceLT, Int.reduceLE, Int.reduceEq, Int.reduceNe, ne_eq, not_false_eq_true, Int.reduceToNat, true_or, or_true, and_self, cst0, cst1, cst2, cst3, cst4, cst5, cst6, cst7, cst8, cst9, eq_self, Int.reduceAdd, Int.reduceSub, Int.reduceMul, Nat.reducePow, o_c, o_ixL, o_ixT, at0, at1, at2, at3, at4, o_lenL, o_lenT, o_lenS, o_listL, o_listT, o_listS, o_tupL, o_tupT, o_max2, o_min2, o_eqI, o_neI, o_isN, o_notN, ch_app, map_some, Sm.isNon, isi1, isi2, tyN_NoneType, tyN_bool, tyN_int, tyN_str, tyN_tuple, tyN_list, okTy_bool, isTy_NoneType_bool, isTy_bool_bool, isTy_int_bool, isTy_str_bool, isTy_tuple_bool, isTy_list_bool, okTy_int, isTy_NoneType_int, isTy_bool_int, isTy_int_int, isTy_str_int, isTy_tuple_int, isTy_list_int, okTy_str, isTy_NoneType_str, isTy_bool_str, isTy_int_str, isTy_str_str, isTy_tuple_str, isTy_list_str, okTy_tuple, isTy_NoneType_tuple, isTy_bool_tuple, isTy_int_tuple, isTy_str_tuple, isTy_tuple_tuple, isTy_list_tuple, okTy_list, isTy_NoneType_list, isTy_bool_list, isTy_int_list, isTy_str_list, isTy_tuple_list, isTy_list_list, bind_some, o_eqB, o_neB, o_eqNN, o_eq00, get_end, set_end, key_encN, o_notInN,  beq_self_eq_true, Bool.or_false, Bool.or_true, Bool.or_self, Bool.false_or, Bool.true_or, List.getElem?_cons_zero, List.getElem?_cons_succ, List.set_cons_zero, List.set_cons_succ, List.length_cons, List.length_nil, List.map_cons, List.map_nil, List.append_nil, List.nil_append, List.cons_append, Nat.zero_add, Nat.reduceAdd, Nat.reduceLeDiff, Nat.reduceLT, Nat.reduceSub, List.replicate, true_and, and_true, if_true, if_false, ite_true, ite_false, Bool.not_true, Bool.not_false, reduceCtorEq, decide_true, decide_false, decide_eq_true_eq, Bool.not_eq_true', decide_eq_false_iff_not, e_mt, e_sl, e_o0, e_o1, o_slL, o_slT, ixW0, ixW1, de_encW, de_encM, wItems_encM, tyS_str, o_addSt, List.length_set, List.length_map, List.length_append, wipeS, unwipe])

def Asc (z : Str) : Prop := ∀ c ∈ TL.tl z, c < 128
def okL : List Nat → Bool
  | [a] => isD a
  | [a, b] => isD a && (isD b && !decide (a = 48))
  | _ => false
def okWd (w : Str) : Bool := okL (TL.tl w)
def valL : List Nat → Int
  | [a] => (a : Int) - 48
  | [a, b] => 10 * ((a : Int) - 48) + ((b : Int) - 48)
  | _ => 0
def valW (w : Str) : Int := valL (TL.tl w)
theorem isD_iff {c : Nat} : isD c = true ↔ 48 ≤ c ∧ c ≤ 57 := by
  unfold isD
  rw [Bool.and_eq_true, decide_eq_true_eq, decide_eq_true_eq]
theorem mk1 {w : Str} {l : List Nat} (h : TL.tl w = l) : w = ⟨l.toArray⟩ := TL.ext_tl (h.trans rfl)
theorem ok_val {w : Str} (h : okWd w = true) : PySem.intText? w = some (valW w) ∧ 0 ≤ valW w ∧ valW w ≤ 99 ∧ w.length ≤ 2 := by
  have hl : w.length = (TL.tl w).length := TL.len_tl w
  unfold okWd at h
  unfold valW
  cases hw : TL.tl w with
  | nil => rw [hw] at h; cases h
  | cons a l =>
    cases l with
    | nil =>
      rw [hw] at h hl
      have ha := isD_iff.mp h
      have := of_decide_eq_true (int1 ⟨a - 48, by omega⟩)
      rw [mk1 hw]
      dsimp only at this
      rw [show 48 + (a - 48) = a by omega] at this
      refine ⟨this.trans ?_, ?_, ?_, by show (1 : Nat) ≤ 2; omega⟩
      · show some _ = some ((a : Int) - 48)
        congr 1
        omega
      · show 0 ≤ (a : Int) - 48
        omega
      · show (a : Int) - 48 ≤ 99
        omega
    | cons b l =>
      cases l with
      | cons _ _ => rw [hw] at h; cases h
      | nil =>
        rw [hw] at h hl
        have h : (isD a && (isD b && !decide (a = 48))) = true := h
        rw [Bool.and_eq_true, Bool.and_eq_true] at h
        have ha := isD_iff.mp h.1
        have hb := isD_iff.mp h.2.1
        have := of_decide_eq_true (int2 ⟨a - 48, by omega⟩ ⟨b - 48, by omega⟩)
        rw [mk1 hw]
        dsimp only at this
        rw [show 48 + (a - 48) = a by omega, show 48 + (b - 48) = b by omega] at this
        refine ⟨this.trans ?_, ?_, ?_, by show (2 : Nat) ≤ 2; omega⟩
        · show some _ = some (10 * ((a : Int) - 48) + ((b : Int) - 48))
          congr 1
          omega
        · show 0 ≤ 10 * ((a : Int) - 48) + ((b : Int) - 48)
          omega
        · show 10 * ((a : Int) - 48) + ((b : Int) - 48) ≤ 99
          omega
theorem dat_asc {z : Str} (h : Asc z) : ∀ n, dat n (.str z) = true := fun n => by
  unfold dat
  show PyData.strOk _ = true
  unfold PyData.strOk
  rw [← Array.all_toList]
  exact List.all_eq_true.mpr fun c hc => decide_eq_true (by have := h c hc; omega)
theorem eq_str {a b : Str} (ha : Asc a) (hb : Asc b) : fEq (.str a) (.str b) = vB (decide (a = b)) ∧ fNe (.str a) (.str b) = vB (!decide (a = b)) := by
  unfold fEq fNe
  rw [if_pos ⟨dat_asc ha 64, dat_asc hb 64⟩, if_pos ⟨dat_asc ha 64, dat_asc hb 64⟩]
  have : vEq (.str a) (.str b) = decide (a = b) := by
    show (a == b) = _
    by_cases h : a = b
    · subst h; rw [beq_self_eq_true, decide_eq_true rfl]
    · rw [beq_eq_false_iff_ne.mpr h, decide_eq_false h]
  rw [this]
  exact ⟨rfl, rfl⟩
theorem asc_of {z : Str} (h : (TL.tl z).all (fun c => decide (c < 128)) = true) : Asc z := fun c hc => of_decide_eq_true (List.all_eq_true.mp h c hc)
theorem asc1 {c : Nat} (h : c < 128) : Asc ⟨#[c]⟩ := fun d hd => by
  have : d ∈ [c] := hd
  rw [List.mem_singleton.mp this]; exact h
theorem strip_asc {w y : Str} (h : Asc w) : Asc (Txt.stripChars w y) := fun c hc => by
  unfold Txt.stripChars Txt.stripBy at hc
  split at hc
  · exact h c hc
  · unfold PySem.stripped at hc
    rw [TL.tl_strSub] at hc
    exact h c (List.mem_of_mem_drop (List.mem_of_mem_take hc))
theorem isnum_A {w : Str} {hp : List Ob} {Q : T → List Ob → Prop} (ha : Asc w) (hl : w.length ≤ 1000000) (k : Q (.val (.bl (okWd w))) hp) : wpc mf_is_number [.str w] hp Q := by
  have hlt : w.length = (TL.tl w).length := TL.len_tl w
  unfold mf_is_number
  rw [e_body]
  unfold m_is_number
  walk_at "ev"
  have hlen : fLen [.str w] = vI w.length := by
    show (if w.length ≤ 16777216 then vI w.length else none) = _
    rw [if_pos (by omega)]
  have no : okWd w = false → Q (.val (.bl false)) hp := fun z => by rw [z] at k; exact k
  have yes : okWd w = true → Q (.val (.bl true)) hp := fun z => by rw [z] at k; exact k
  rw [hlen]
  walk_at "ev"
  by_cases h1 : (1 : Int) ≤ (w.length : Int)
  case neg =>
    rw [decide_eq_false h1]
    walk_at "ev"
    refine no ?_
    unfold okWd
    cases hw : TL.tl w with
    | nil => rfl
    | cons a l => rw [hw] at hlt; simp only [List.length_cons] at hlt; omega
  rw [decide_eq_true h1]
  walk_at "ev"
  by_cases h2 : (w.length : Int) ≤ 2
  case neg =>
    rw [decide_eq_false h2]
    walk_at "ev"
    refine no ?_
    unfold okWd
    cases hw : TL.tl w with
    | nil => rfl
    | cons a l =>
      cases l with
      | nil => rw [hw] at hlt; simp only [List.length_cons, List.length_nil] at hlt; omega
      | cons b l =>
        cases l with
        | nil => rw [hw] at hlt; simp only [List.length_cons, List.length_nil] at hlt; omega
        | cons _ _ => rfl
  rw [decide_eq_true h2]
  walk_at "ev"
  have hstrip : fStrip (.str w) [.str "0123456789"] = some (.val (.str (Txt.stripChars w "0123456789"))) := by
    show (if w.length ≤ 16777216 then some (T.val (.str (Txt.stripChars w "0123456789"))) else none) = _
    rw [if_pos (by omega)]
  have z0 : Asc ("0" : Str) := asc_of (by decide +kernel)
  have ze : Asc ("" : Str) := asc_of (by decide +kernel)
  have zt : TL.tl ("0" : Str) = [48] := by decide +kernel
  rw [hstrip]
  walk_at "ev"
  have key : ∀ (b : Bool) (a : Nat) (r : List Nat), TL.tl w = a :: r → decide (Txt.stripChars w "0123456789" = "") = b → Asc (Txt.stripChars w "0123456789") → (b = false → okWd w = false) → (b = true → okWd w = !(decide (¬ w = "0") && decide (a = 48))) →
      wIf b (wp (mOrV (mOp2 fEq (mV 0) (mC (.str "0"))) (mOp2 fNe (mOp2 fIx (mV 0) (mC (.int 0))) (mC (.str "0")))) (fun t s => wGive (fun f s => wEnd f fun t => Q t s.hp) t s) ⟨hp, [.val (.str w)]⟩) (Q (.val (.bl false)) hp) := fun b a r hw hb has hf ht => by
    cases b with
    | false => exact no (hf rfl)
    | true =>
      rw [wIf_t]
      walk_at "ev"
      rw [(eq_str ha z0).1]
      walk_at "ev"
      by_cases e : w = "0"
      · rw [decide_eq_true e]
        walk_at "ev"
        refine yes ?_
        rw [ht rfl, decide_eq_false (fun z => z e)]
        rfl
      · rw [decide_eq_false e]
        walk_at "ev"
        have hix : fIx (.str w) (.int 0) = some (.val (.str ⟨#[a]⟩)) := by
          show (if w.length ≤ 16777216 then (atI w.cps.toList 0).map (fun c => T.val (.str ⟨#[c]⟩)) else none) = _
          rw [if_pos (by omega), show w.cps.toList = a :: r from hw, at0]
          rfl
        rw [hix]
        walk_at "ev"
        rw [(eq_str (asc1 (ha a (by rw [hw]; exact .head _))) z0).2]
        walk_at "ev"
        have e48 : decide ((⟨#[a]⟩ : Str) = "0") = decide (a = 48) := by
          by_cases h48 : a = 48
          · subst h48
            rw [decide_eq_true rfl]
            exact decide_eq_true (TL.ext_tl (by rw [zt]))
          · rw [decide_eq_false h48]
            refine decide_eq_false fun z => h48 ?_
            have := congrArg TL.tl z
            rw [zt] at this
            exact (List.cons.inj this).1
        rw [e48]
        rw [ht rfl, decide_eq_true e, Bool.true_and] at k
        exact k
  cases hw : TL.tl w with
  | nil => rw [hw] at hlt; simp only [List.length_nil] at hlt; omega
  | cons a l =>
    have ha128 := ha a (by rw [hw]; exact .head _)
    have es : fEq (.str (Txt.stripChars w "0123456789")) (.str "") = vB (decide (Txt.stripChars w "0123456789" = "")) := (eq_str (strip_asc ha) ze).1
    rw [es]
    walk_at "ev"
    have z48 : ∀ l : List Nat, TL.tl w = l → ((¬ w = "0") ↔ ¬ l = [48]) := fun l hl => by
      refine not_congr ⟨fun z => ?_, fun z => ?_⟩
      · rw [← hl, z, zt]
      · exact TL.ext_tl (by rw [hl, z, zt])
    cases l with
    | nil =>
      have s1 := strip1 ⟨a, ha128⟩
      rw [← mk1 hw] at s1
      have kk := key _ a [] hw s1 (strip_asc ha) (fun z => by unfold okWd; rw [hw]; exact z) (fun z => by
        unfold okWd
        rw [hw]
        show isD a = _
        rw [z]
        by_cases h48 : a = 48
        · rw [decide_eq_false (fun q => (z48 _ hw).mp q (by rw [h48]))]; rfl
        · rw [decide_eq_false h48, Bool.and_false]; rfl)
      rw [s1]
      exact kk
    | cons b l =>
      cases l with
      | cons c l => rw [hw] at hlt; simp only [List.length_cons] at hlt; omega
      | nil =>
        have hb128 := ha b (by rw [hw]; exact .tail _ (.head _))
        have s2 := strip2 ⟨a, ha128⟩ ⟨b, hb128⟩
        rw [← mk1 hw] at s2
        have kk := key _ a [b] hw s2 (strip_asc ha) (fun z => by
          unfold okWd
          rw [hw]
          show (isD a && (isD b && !decide (a = 48))) = false
          rw [← Bool.and_assoc, z]
          rfl) (fun z => by
          unfold okWd
          rw [hw]
          show (isD a && (isD b && !decide (a = 48))) = _
          rw [← Bool.and_assoc, z]
          rw [decide_eq_true ((z48 _ hw).mpr (by simp))]
          rfl)
        rw [s2]
        exact kk

end
section
local macro_rules | `(tactic| walk_at "ev") => `(tactic| simp (maxSteps := 1000000) -implicitDefEqProofs only [e_skip, e_bad, e_expr, e_seq, wNx_nx, wNx_brk, wNx_cnt, wNx_ret, wLp_nx, wLp_brk, wLp_cnt, wLp_ret, e_pure, e_ret, wGive_val, wGive_own, wGive_loc, e_if, e_ifE, e_not, e_and, e_or, e_tst, e_bool, e_yes, wB_bl, wI_int, wO_some, e_c, e_v, e_op1, e_op2, e_a0, e_a1, e_cb, e_chain, e_andV, e_orV, e_notV, e_take_val, e_take_own, e_take_loc, e_takes0, e_takes1, e_tup, e_lst, wBox_own, e_box, e_call, wEnd_nx, wEnd_ret, e_asg, e_gn_val, e_gn_own, e_gn_loc, e_gs0, e_gs1, e_gt, e_gsub, e_put_ref, e_put_loc, e_aug, e_for, e_loop0, e_items, wItems_tup, wItems_ktup, wItems_lst, wItems_scr, e_rng1, e_lrng, wEnu_tup, wEnu_lst, e_enum, e_ch, e_ch_loc, isL_loc, wDic_ref, e_dnew, e_dget, e_din, e_dput, e_comp, e_cloop0, view_val, view_own, view_loc, de_non, de_bl, de_int, de_str, de_tup, de_lst, de_scr, de_ty, de_ref, vw0, vw1, op2_some, op1_some, o_addI, o_addT, o_addL, o_i2, o_mod, o_div, o_pow, o_mulI, wIf_t, wIf_f, Int.reducePow, Int.reduceNeg, Int.reduceLT, Int.reduceLE, Int.reduceEq, Int.reduceNe, ne_eq, not_false_eq_true, Int.reduceToNat, true_or, or_true, and_self, cst0, cst1, cst2, cst3, cst4, cst5, cst6, cst7, cst8, cst9, eq_self, Int.reduceAdd, Int.reduceSub, Int.reduceMul, Nat.reducePow, o_c, o_ixL, o_ixT, at0, at1, at2, at3, at4, o_lenL, o_lenT, o_lenS, o_listL, o_listT, o_listS, o_tupL, o_tupT, o_max2, o_min2, o_eqI, o_neI, o_isN, o_notN, ch_app, map_some, Sm.isNon, isi1, isi2, tyN_NoneType, tyN_bool, tyN_int, tyN_str, tyN_tuple, tyN_list, okTy_bool, isTy_NoneType_bool, isTy_bool_bool, isTy_int_bool, isTy_str_bool, isTy_tuple_bool, isTy_list_bool, okTy_int, isTy_NoneType_int, isTy_bool_int, isTy_int_int, isTy_str_int, isTy_tuple_int, isTy_list_int, okTy_str, isTy_NoneType_str, isTy_bool_str, isTy_int_str, isTy_str_str, isTy_tuple_str, isTy_list_str, okTy_tuple, isTy_NoneType_tuple, isTy_bool_tuple, isTy_int_tuple, isTy_str_tuple, isTy_tuple_tuple, isTy_list_tuple, okTy_list, isTy_NoneType_list, isTy_bool_list, isTy_int_list, isTy_str_list, isTy_tuple_list, isTy_list_list, bind_some, o_eqB, o_neB, o_eqNN, o_eq00, get_end, set_end, key_encN, o_notInN, beq_self_eq_true, Bool.or_false, Bool.or_true, Bool.or_self, Bool.false_or, Bool.true_or, List.getElem?_cons_zero, List.getElem?_cons_succ, List.set_cons_zero, List.set_cons_succ, List.length_cons, List.length_nil, List.map_cons, List.map_nil, List.append_nil, List.nil_append, List.cons_append, Nat.zero_add, Nat.reduceAdd, Nat.reduceLeDiff, Nat.reduceLT, Nat.reduceSub, List.replicate, true_and, and_true, if_true, if_false, ite_true, ite_false, Bool.not_true, Bool.not_false, reduceCtorEq, decide_true, decide_false, decide_eq_true_eq, Bool.not_eq_true', decide_eq_false_iff_not, e_mt, e_sl, e_o0, e_o1, o_slL, o_slT, ixW0, ixW1, de_encW, de_encM, wItems_encM, tyS_str, o_addSt, List.length_set, List.length_map, List.length_append, wipeS, unwipe, e_itemsS, wStr_s])

/-- what three words say -/
def numP : List Str → Option Step
  | [a, b, c] => if okWd a = true ∧ okWd b = true ∧ okWd c = true then some (valW a, valW b, valW c) else none
  | _ => none
def encOS : Option Step → Val
  | none => .non
  | some s => encS s
structure Small (z : Str) : Prop where
  a : Asc z
  l : z.length ≤ 100000
theorem fInt_ok {w : Str} (h : okWd w = true) : fInt [.str w] = some (.val (.int (valW w))) := by
  obtain ⟨h1, _, _, h4⟩ := ok_val h
  show ((PySem.intText? w).bind fun n => if w.length ≤ 640 then vI n else none) = _
  rw [h1]
  show (if w.length ≤ 640 then vI (valW w) else none) = _
  rw [if_pos (by omega)]
theorem num3_no {a b c : Str} (h : ¬ (okWd a = true ∧ okWd b = true ∧ okWd c = true)) : numP [a, b, c] = none := if_neg h
theorem num3_ok {a b c : Str} (h : okWd a = true ∧ okWd b = true ∧ okWd c = true) : numP [a, b, c] = some (valW a, valW b, valW c) := if_pos h
theorem numbers_A {ws : List Str} {hp : List Ob} {Q : T → List Ob → Prop} (h : ∀ w ∈ ws, Small w) (hl : ws.length ≤ 200000) (k : Q (.val (encOS (numP ws))) hp) : wpc mf_numbers_in [.lst (ws.map .str)] hp Q := by
  unfold mf_numbers_in
  rw [e_body]
  unfold m_numbers_in
  walk_at "ev"
  by_cases h3 : ws.length = 3
  case neg =>
    rw [decide_eq_false (show ¬ (ws.length : Int) = 3 by omega)]
    walk_at "ev"
    have : numP ws = none := by
      match ws, h3 with
      | [], _ => rfl
      | [_], _ => rfl
      | [_, _], _ => rfl
      | [_, _, _], h => exact absurd rfl h
      | _ :: _ :: _ :: _ :: _, _ => rfl
    rw [this] at k
    exact k
  rw [decide_eq_true (show (ws.length : Int) = 3 by omega)]
  walk_at "ev"
  refine ⟨by omega, ?_⟩
  refine wp_cfilt (enc := Val.str) (fun _ => true) (fun w => .bl (okWd w)) (fun st => ∃ s1 : Sl, st = ⟨hp, [.val (.lst (ws.map .str)), s1]⟩) ⟨_, rfl⟩ (fun w hw st => ?_) (fun st => ?_)
  · rintro ⟨s1, rfl⟩
    walk_at "ev"
    refine isnum_A (h w hw).a (by have := (h w hw).l; omega) ?_
    walk_at "ev"
    exact ⟨_, rfl⟩
  rintro ⟨s1, rfl⟩
  rw [List.filter_eq_self.mpr (fun _ _ => rfl)]
  have hall : fAllB [.lst (ws.map fun w => Val.bl (okWd w))] = some (.val (.bl (ws.all okWd))) := by
    show (boolsOf (ws.map fun w => Val.bl (okWd w))).map _ = _
    rw [bools_map]
    show some (T.val (Val.bl ((ws.map okWd).all id))) = some _
    rw [List.all_map]
    rfl
  walk_at "ev"
  rw [hall]
  walk_at "ev"
  match ws, h3, k, h with
  | [a, b, c], _, k, h =>
    cases hb : [a, b, c].all okWd with
    | false =>
      walk_at "ev"
      have : numP [a, b, c] = none := by
        refine num3_no ?_
        rintro ⟨h1, h2, h3⟩
        simp only [List.all_cons, List.all_nil, h1, h2, h3, Bool.and_self] at hb
        cases hb
      rw [this] at k
      exact k
    | true =>
      simp only [List.all_cons, List.all_nil, Bool.and_true, Bool.and_eq_true] at hb
      have : numP [a, b, c] = some (valW a, valW b, valW c) := num3_ok hb
      rw [this] at k
      walk_at "ev"
      refine wp_cfilt (enc := Val.str) (xs := [a, b, c]) (fun _ => true) (fun w => .int (valW w)) (fun st => ∃ s1 : Sl, st = ⟨hp, [.val (.lst ([a, b, c].map .str)), s1]⟩) ⟨_, rfl⟩ (fun w hw st => ?_) (fun st => ?_)
      · rintro ⟨s1, rfl⟩
        have hok : okWd w = true := by
          simp only [List.mem_cons, List.not_mem_nil, or_false] at hw
          rcases hw with rfl | rfl | rfl
          · exact hb.1
          · exact hb.2.1
          · exact hb.2.2
        walk_at "ev"
        rw [fInt_ok hok]
        walk_at "ev"
        exact ⟨_, rfl⟩
      rintro ⟨s1, rfl⟩
      rw [List.filter_eq_self.mpr (fun _ _ => rfl)]
      walk_at "ev"
      exact k
theorem signs_eq (z : Str) : signs z = (TL.tl z).map fun c => Val.str ⟨#[c]⟩ := rfl
theorem leS_sign {c : Nat} : (fLeS (.str "0") (.str ⟨#[c]⟩) = vB (decide (48 ≤ c))) ∧ (fLeS (.str ⟨#[c]⟩) (.str "9") = vB (decide (c ≤ 57))) := by
  have z0 : ("0" : Str).cps.toList = [48] := by decide +kernel
  have z9 : ("9" : Str).cps.toList = [57] := by decide +kernel
  have lt1 : ∀ a b : Nat, ([a] < [b]) ↔ a < b := fun a b => by
    rw [List.cons_lt_cons_iff]
    simp
  constructor
  · show vB (!decide ([c] < ("0" : Str).cps.toList)) = _
    rw [z0]
    congr 1
    by_cases h : c < 48
    · rw [decide_eq_true ((lt1 _ _).mpr h), decide_eq_false (by omega)]; rfl
    · rw [decide_eq_false (fun z => h ((lt1 _ _).mp z)), decide_eq_true (by omega)]; rfl
  · show vB (!decide (("9" : Str).cps.toList < [c])) = _
    rw [z9]
    congr 1
    by_cases h : 57 < c
    · rw [decide_eq_true ((lt1 _ _).mpr h), decide_eq_false (by omega)]; rfl
    · rw [decide_eq_false (fun z => h ((lt1 _ _).mp z)), decide_eq_true (by omega)]; rfl
theorem lok {w : Str} {a : Nat} {r : List Nat} (hw : TL.tl w = a :: r) (h2 : w.length ≤ 2) : okWd w = (!decide (((List.filter isD (TL.tl w)).length : Int) < (w.length : Int)) && !(!decide (w = "0") && decide (a = 48))) := by
  have zt : TL.tl ("0" : Str) = [48] := by decide +kernel
  have hlt : w.length = (TL.tl w).length := TL.len_tl w
  unfold okWd
  rw [hlt] at h2
  rw [hlt]
  have zz : decide (w = "0") = decide (a :: r = [48]) := by
    by_cases e : w = "0"
    · rw [decide_eq_true e, decide_eq_true (by rw [← hw, e, zt])]
    · rw [decide_eq_false e, decide_eq_false (fun q => e (TL.ext_tl (by rw [hw, q, zt])))]
  rw [zz, hw]
  rw [hw] at h2
  match r, h2 with
  | [], _ =>
    show isD a = _
    by_cases h : isD a = true
    · rw [List.filter_cons_of_pos h, h]
      by_cases h48 : a = 48
      · subst h48; rfl
      · rw [decide_eq_false h48, Bool.and_false]; rfl
    · rw [List.filter_cons_of_neg h, Bool.eq_false_iff.mpr h]
      rfl
  | [b], _ =>
    show (isD a && (isD b && !decide (a = 48))) = _
    rw [show decide ([a, b] = [48]) = false from decide_eq_false (by simp)]
    by_cases h : isD a = true
    · rw [List.filter_cons_of_pos h, h]
      by_cases g : isD b = true
      · rw [List.filter_cons_of_pos g, g]
        rw [decide_eq_false (show ¬ (((a :: b :: List.filter isD []).length : Int) < ([a, b].length : Int)) by simp)]
        rfl
      · rw [List.filter_cons_of_neg g, Bool.eq_false_iff.mpr g]
        rfl
    · rw [List.filter_cons_of_neg h, Bool.eq_false_iff.mpr h]
      by_cases g : isD b = true
      · rw [List.filter_cons_of_pos g]
        rfl
      · rw [List.filter_cons_of_neg g]
        rfl
theorem lnumbers_A {ws : List Str} {hp : List Ob} {Q : T → List Ob → Prop} (h : ∀ w ∈ ws, Small w) (hl : ws.length ≤ 200000) (k : Q (.val (encOS (numP ws))) hp) : wpc mf__law_numbers [.lst (ws.map .str)] hp Q := by
  have z0 : Asc ("0" : Str) := asc_of (by decide +kernel)
  have zt : TL.tl ("0" : Str) = [48] := by decide +kernel
  unfold mf__law_numbers
  rw [e_body]
  unfold m__law_numbers
  walk_at "ev"
  have bad : ∀ w ∈ ws, okWd w = false → Q (.val .non) hp := fun w hw hb => by
    have : numP ws = none := by
      match ws, hw with
      | [], _ => rfl
      | [_], _ => rfl
      | [_, _], _ => rfl
      | [a, b, c], hw =>
        refine num3_no ?_
        rintro ⟨h1, h2, h3⟩
        simp only [List.mem_cons, List.not_mem_nil, or_false] at hw
        rcases hw with rfl | rfl | rfl
        · rw [h1] at hb; cases hb
        · rw [h2] at hb; cases hb
        · rw [h3] at hb; cases hb
      | _ :: _ :: _ :: _ :: _, _ => rfl
    rw [this] at k
    exact k
  refine wp_loop (fun (l : List Str) st => ∃ (ps : List Str) (s1 s2 s3 : Sl), ws = ps ++ l ∧ (∀ w ∈ ps, okWd w = true) ∧ st = ⟨hp, [.val (.lst (ws.map .str)), s1, s2, s3]⟩)
    ⟨[], _, _, _, rfl, nofun, rfl⟩ (fun w l st => ?_) (fun st => ?_)
  · rintro ⟨ps, s1, s2, s3, e, hps, rfl⟩
    have hw : w ∈ ws := by rw [e]; exact List.mem_append_right _ (.head _)
    have bad := bad w hw
    have hsm := h w hw
    have hsl := hsm.l
    have hlt : w.length = (TL.tl w).length := TL.len_tl w
    have go : okWd w = true → ∀ s2 s3, ∃ (ps' : List Str) (t1 t2 t3 : Sl), ws = ps' ++ l ∧ (∀ w ∈ ps', okWd w = true) ∧ (⟨hp, [.val (.lst (ws.map .str)), .val (.str w), s2, s3]⟩ : MS) = ⟨hp, [.val (.lst (ws.map .str)), t1, t2, t3]⟩ := fun z s2 s3 =>
      ⟨ps ++ [w], _, s2, s3, by rw [e, List.append_assoc]; rfl, fun x hx => by
        rcases List.mem_append.mp hx with hx | hx
        · exact hps x hx
        · rw [List.mem_singleton.mp hx]; exact z, rfl⟩
    clear hps e h k
    walk_at "ev"
    rw [signs_eq]
    have hlen : fLen [.str w] = vI w.length := by
      show (if w.length ≤ 16777216 then vI w.length else none) = _
      rw [if_pos (by omega)]
    refine ⟨by rw [List.length_map]; omega, ?_⟩
    refine wp_cfilt (enc := fun c : Nat => Val.str ⟨#[c]⟩) (xs := TL.tl w) isD (fun c => .str ⟨#[c]⟩) (fun st => ∃ s3 : Sl, st = ⟨hp, [.val (.lst (ws.map .str)), .val (.str w), s2, s3]⟩) ⟨_, rfl⟩ (fun c hc st => ?_) (fun st => ?_)
    · rintro ⟨s3, rfl⟩
      walk_at "ev"
      rw [leS_sign.1]
      walk_at "ev"
      by_cases h1 : 48 ≤ c
      case neg =>
        rw [decide_eq_false h1]
        walk_at "ev"
        exact ⟨by unfold isD; rw [decide_eq_false h1]; rfl, _, rfl⟩
      rw [decide_eq_true h1]
      walk_at "ev"
      rw [leS_sign.2]
      walk_at "ev"
      by_cases h2 : c ≤ 57
      · rw [decide_eq_true h2]
        walk_at "ev"
        exact ⟨by unfold isD; rw [decide_eq_true h1, decide_eq_true h2]; rfl, _, rfl⟩
      · rw [decide_eq_false h2]
        walk_at "ev"
        exact ⟨by unfold isD; rw [decide_eq_false h2, Bool.and_false], _, rfl⟩
    rintro ⟨s3, rfl⟩
    walk_at "ev"
    rw [hlen]
    walk_at "ev"
    have no : okWd w = false → Q (.val .non) hp := bad
    by_cases h1 : (1 : Int) ≤ (w.length : Int)
    case neg =>
      rw [decide_eq_false h1]
      walk_at "ev"
      refine no ?_
      unfold okWd
      cases hw : TL.tl w with
      | nil => rfl
      | cons a l => rw [hw] at hlt; simp only [List.length_cons] at hlt; omega
    rw [decide_eq_true h1]
    walk_at "ev"
    by_cases h2 : (w.length : Int) ≤ 2
    case neg =>
      rw [decide_eq_false h2]
      walk_at "ev"
      refine no ?_
      unfold okWd
      cases hw : TL.tl w with
      | nil => rfl
      | cons a l =>
        cases l with
        | nil => rw [hw] at hlt; simp only [List.length_cons, List.length_nil] at hlt; omega
        | cons b l =>
          cases l with
          | nil => rw [hw] at hlt; simp only [List.length_cons, List.length_nil] at hlt; omega
          | cons _ _ => rfl
    rw [decide_eq_true h2]
    walk_at "ev"
    rw [hlen]
    walk_at "ev"
    cases hwt : TL.tl w with
    | nil => rw [hwt] at hlt; simp only [List.length_nil] at hlt; omega
    | cons a r =>
      have key := lok hwt (by omega)
      rw [hwt] at key
      by_cases g : ((List.filter isD (a :: r)).length : Int) < (w.length : Int)
      · rw [decide_eq_true g]
        walk_at "ev"
        refine no ?_
        rw [key, decide_eq_true g]
        rfl
      rw [decide_eq_false g]
      rw [decide_eq_false g, Bool.not_false, Bool.true_and] at key
      walk_at "ev"
      rw [(eq_str hsm.a z0).2]
      walk_at "ev"
      by_cases e : w = "0"
      · rw [decide_eq_true e]
        rw [decide_eq_true e] at key
        walk_at "ev"
        exact go key _ _
      rw [decide_eq_false e]
      rw [decide_eq_false e, Bool.not_false, Bool.true_and] at key
      walk_at "ev"
      have hix : fIx (.str w) (.int 0) = some (.val (.str ⟨#[a]⟩)) := by
        show (if w.length ≤ 16777216 then (atI w.cps.toList 0).map (fun c => T.val (.str ⟨#[c]⟩)) else none) = _
        rw [if_pos (by omega), show w.cps.toList = a :: r from hwt, at0]
        rfl
      rw [hix]
      walk_at "ev"
      rw [(eq_str (asc1 (hsm.a a (by rw [hwt]; exact .head _))) z0).1]
      walk_at "ev"
      have e48 : decide ((⟨#[a]⟩ : Str) = "0") = decide (a = 48) := by
        by_cases h48 : a = 48
        · subst h48
          rw [decide_eq_true rfl]
          exact decide_eq_true (TL.ext_tl (by rw [zt]))
        · rw [decide_eq_false h48]
          refine decide_eq_false fun z => h48 ?_
          have := congrArg TL.tl z
          rw [zt] at this
          exact (List.cons.inj this).1
      rw [e48]
      by_cases h48 : a = 48
      · rw [decide_eq_true h48]
        walk_at "ev"
        refine no ?_
        rw [key, decide_eq_true h48]
        rfl
      · rw [decide_eq_false h48]
        walk_at "ev"
        refine go ?_ _ _
        rw [key, decide_eq_false h48]
        rfl
  · rintro ⟨ps, s1, s2, s3, e, hps, rfl⟩
    rw [List.append_nil] at e
    subst e
    walk_at "ev"
    by_cases h3 : ws.length = 3
    case neg =>
      rw [decide_eq_false (show ¬ (ws.length : Int) = 3 by omega)]
      walk_at "ev"
      have : numP ws = none := by
        match ws, h3 with
        | [], _ => rfl
        | [_], _ => rfl
        | [_, _], _ => rfl
        | [_, _, _], h => exact absurd rfl h
        | _ :: _ :: _ :: _ :: _, _ => rfl
      rw [this] at k
      exact k
    rw [decide_eq_true (show (ws.length : Int) = 3 by omega)]
    walk_at "ev"
    match ws, h3, k, hps with
    | [a, b, c], _, k, hps =>
      have ha := hps a (.head _)
      have hb := hps b (.tail _ (.head _))
      have hc := hps c (.tail _ (.tail _ (.head _)))
      have : numP [a, b, c] = some (valW a, valW b, valW c) := num3_ok ⟨ha, hb, hc⟩
      rw [this] at k
      refine ⟨by simp, ?_⟩
      refine wp_cfilt (enc := Val.str) (xs := [a, b, c]) (fun _ => true) (fun w => .int (valW w)) (fun st => ∃ s1 : Sl, st = ⟨hp, [.val (.lst ([a, b, c].map .str)), s1, s2, s3]⟩) ⟨_, rfl⟩ (fun w hw st => ?_) (fun st => ?_)
      · rintro ⟨s1, rfl⟩
        walk_at "ev"
        rw [fInt_ok (hps w hw)]
        walk_at "ev"
        exact ⟨_, rfl⟩
      rintro ⟨s1, rfl⟩
      rw [List.filter_eq_self.mpr (fun _ _ => rfl)]
      walk_at "ev"
      exact k

end
section
local macro_rules | `(tactic| walk_at "ev") => `(tactic| simp (maxSteps := 1000000) -implicitDefEqProofs only [e_skip, e_bad, e_expr, e_seq, wNx_nx, wNx_brk, wNx_cnt, wNx_ret, wLp_nx, wLp_brk, wLp_cnt, wLp_ret, e_pure, e_ret, wGive_val, wGive_own, wGive_loc, e_if, e_ifE, e_not, e_and, e_or, e_tst, e_bool, e_yes, wB_bl, wI_int, wO_some, e_c, e_v, e_op1, e_op2, e_a0, e_a1, e_cb, e_chain, e_andV, e_orV, e_notV, e_take_val, e_take_own, e_take_loc, e_takes0, e_takes1, e_tup, e_lst, wBox_own, e_box, e_call, wEnd_nx, wEnd_ret, e_asg, e_gn_val, e_gn_own, e_gn_loc, e_gs0, e_gs1, e_gt, e_gsub, e_put_ref, e_put_loc, e_aug, e_for, e_loop0, e_items, wItems_tup, wItems_ktup, wItems_lst, wItems_scr, e_rng1, e_lrng, wEnu_tup, wEnu_lst, e_enum, e_ch, e_ch_loc, isL_loc, wDic_ref, e_dnew, e_dget, e_din, e_dput, e_comp, e_cloop0, view_val, view_own, view_loc, de_non, de_bl, de_int, de_str, de_tup, de_lst, de_scr, de_ty, de_ref, vw0, vw1, op2_some, op1_some, o_addI, o_addT, o_addL, o_i2, o_mod, o_div, o_pow, o_mulI, wIf_t, wIf_f, Int.reducePow, Int.reduceNeg, Int.reduceLT, Int.reduceLE, Int.reduceEq, Int.reduceNe, ne_eq, not_false_eq_true, Int.reduceToNat, true_or, or_true, and_self, cst0, cst1, cst2, cst3, cst4, cst5, cst6, cst7, cst8, cst9, eq_self, Int.reduceAdd, Int.reduceSub, Int.reduceMul, Nat.reducePow, o_c, o_ixL, o_ixT, at0, at1, at2, at3, at4, o_lenL, o_lenT, o_lenS, o_listL, o_listT, o_listS, o_tupL, o_tupT, o_max2, o_min2, o_eqI, o_neI, o_isN, o_notN, ch_app, map_some, Sm.isNon, isi1, isi2, tyN_NoneType, tyN_bool, tyN_int, tyN_str, tyN_tuple, tyN_list, okTy_bool, isTy_NoneType_bool, isTy_bool_bool, isTy_int_bool, isTy_str_bool, isTy_tuple_bool, isTy_list_bool, okTy_int, isTy_NoneType_int, isTy_bool_int, isTy_int_int, isTy_str_int, isTy_tuple_int, isTy_list_int, okTy_str, isTy_NoneType_str, isTy_bool_str, isTy_int_str, isTy_str_str, isTy_tuple_str, isTy_list_str, okTy_tuple, isTy_NoneType_tuple, isTy_bool_tuple, isTy_int_tuple, isTy_str_tuple, isTy_tuple_tuple, isTy_list_tuple, okTy_list, isTy_NoneType_list, isTy_bool_list, isTy_int_list, isTy_str_list, isTy_tuple_list, isTy_list_list, bind_some, o_eqB, o_neB, o_eqNN, o_eq00, get_end, set_end, key_encN, o_notInN, beq_self_eq_true, Bool.or_false, Bool.or_true, Bool.or_self, Bool.false_or, Bool.true_or, List.getElem?_cons_zero, List.getElem?_cons_succ, List.set_cons_zero, List.set_cons_succ, List.length_cons, List.length_nil, List.map_cons, List.map_nil, List.append_nil, List.nil_append, List.cons_append, Nat.zero_add, Nat.reduceAdd, Nat.reduceLeDiff, Nat.reduceLT, Nat.reduceSub, List.replicate, true_and, and_true, if_true, if_false, ite_true, ite_false, Bool.not_true, Bool.not_false, reduceCtorEq, decide_true, decide_false, decide_eq_true_eq, Bool.not_eq_true', decide_eq_false_iff_not, e_mt, e_sl, e_o0, e_o1, o_slL, o_slT, ixW0, ixW1, de_encW, de_encM, wItems_encM, tyS_str, o_addSt, List.length_set, List.length_map, List.length_append, wipeS, unwipe, e_itemsS, wStr_s])

instance okS_dec (cap : Int) (s : Step) : Decidable (okS cap s) := by unfold okS; exact inferInstance
def badAt (cap : Int) : Nat → List Step → Option Nat
  | _, [] => none
  | i, s :: l => if i = 6 ∨ ¬ okS cap s then some i else badAt cap (i + 1) l
theorem badAt_cons {cap : Int} {i : Nat} {s : Step} {l : List Step} : badAt cap i (s :: l) = if i = 6 ∨ ¬ okS cap s then some i else badAt cap (i + 1) l := by rw [badAt]
def bsE (n : Int) (j : Nat) : Exc := ⟨"BadStep", [("step", .int (j : Int)), ("machine", .int n)]⟩
theorem needSteps_X {cap n : Int} {ss : List Step} {hp : List Ob} {Q : T → List Ob → Prop} {E : Exc → List Ob → Prop}
    (k : match badAt cap 0 ss with | none => Q (.val .non) hp | some j => E (bsE n j) hp) : wpcX mf_need_steps [.int cap, .int n, encM ss] hp Q E := by
  unfold mf_need_steps
  rw [x_body]
  unfold m_need_steps encM
  refine x_for ?_
  walk_at "ev"
  refine wpX_loopE (fun i l s => ∃ s3 s4 s5 s6 s7, badAt cap i l = badAt cap 0 ss ∧ s = ⟨hp, [.val (.int cap), .val (.int n), .val (.tup (ss.map encS)), s3, s4, s5, s6, s7]⟩)
    ⟨_, _, _, _, _, rfl, rfl⟩ (fun i x xs s => ?_) (fun i s => ?_)
  · rintro ⟨s3, s4, s5, s6, s7, hi, rfl⟩
    rw [badAt_cons] at hi
    have bad : (i = 6 ∨ ¬ okS cap x) → E (bsE n i) hp := fun h => by
      rw [if_pos h] at hi
      rw [← hi] at k
      exact k
    have good : ¬ (i = 6 ∨ ¬ okS cap x) → badAt cap (i + 1) xs = badAt cap 0 ss := fun h => by
      rw [if_neg h] at hi
      exact hi
    clear hi k
    rw [show encS x = .tup [.int x.1, .int x.2.1, .int x.2.2] from rfl]
    walk_at "ev"
    refine x_test ?_
    walk_at "ev"
    refine wIf_sp (fun h => ?_) (fun h => ?_)
    · refine x_raiseK ?_
      walk_at "ev"
      exact bad (.inl (by have := of_decide_eq_true h; omega))
    have h6 := of_decide_eq_false h
    walk_at "ev"
    refine x_first ?_
    walk_at "ev"
    refine x_last ?_
    have raise : ∀ s4 s5 s6 s7, (i = 6 ∨ ¬ okS cap x) → wpX (mRaiseK "BadStep" ["machine", "step"] (mA1 (mV 1) (mA1 (mV 3) mA0))) (fun f s2 => wLp (fun s => ∃ s3 s4 s5 s6 s7, badAt cap (i + 1) xs = badAt cap 0 ss ∧ s = ⟨hp, [.val (.int cap), .val (.int n), .val (.tup (ss.map encS)), s3, s4, s5, s6, s7]⟩) (fun f s => wEnd f fun t => Q t s.hp) f s2) (fun e s => E e s.hp) ⟨hp, [.val (.int cap), .val (.int n), .val (.tup (ss.map encS)), .val (.int i), s4, s5, s6, s7]⟩ := fun s4 s5 s6 s7 hb => by
      refine x_raiseK ?_
      walk_at "ev"
      exact bad hb
    walk_at "ev"
    by_cases h00 : (0 : Int) ≤ x.1
    case neg =>
      rw [decide_eq_false h00]
      walk_at "ev"
      exact raise _ _ _ _ (.inr fun z => h00 z.1)
    rw [decide_eq_true h00]
    walk_at "ev"
    by_cases h10 : x.1 ≤ cap
    case neg =>
      rw [decide_eq_false h10]
      walk_at "ev"
      exact raise _ _ _ _ (.inr fun z => h10 z.2.1)
    rw [decide_eq_true h10]
    walk_at "ev"
    by_cases h20 : (1 : Int) ≤ x.2.1
    case neg =>
      rw [decide_eq_false h20]
      walk_at "ev"
      exact raise _ _ _ _ (.inr fun z => h20 z.2.2.1)
    rw [decide_eq_true h20]
    walk_at "ev"
    by_cases h30 : x.2.1 ≤ 9
    case neg =>
      rw [decide_eq_false h30]
      walk_at "ev"
      exact raise _ _ _ _ (.inr fun z => h30 z.2.2.2.1)
    rw [decide_eq_true h30]
    walk_at "ev"
    by_cases h40 : (0 : Int) ≤ x.2.2
    case neg =>
      rw [decide_eq_false h40]
      walk_at "ev"
      exact raise _ _ _ _ (.inr fun z => h40 z.2.2.2.2.1)
    rw [decide_eq_true h40]
    walk_at "ev"
    by_cases h50 : x.2.2 ≤ x.1
    case neg =>
      rw [decide_eq_false h50]
      walk_at "ev"
      exact raise _ _ _ _ (.inr fun z => h50 z.2.2.2.2.2)
    rw [decide_eq_true h50]
    walk_at "ev"
    exact ⟨_, _, _, _, _, good (fun z => z.elim (fun z => h6 (by omega)) fun z => z ⟨h00, h10, h20, h30, h40, h50⟩), rfl⟩
  · rintro ⟨s3, s4, s5, s6, s7, hi, rfl⟩
    rw [← hi] at k
    walk_at "ev"
    exact k
def stE : Exc := ⟨"BadStore", []⟩
def stB (a b r : Int) : Bool := decide (1 ≤ a ∧ a ≤ 99 ∧ 0 ≤ b ∧ b ≤ a ∧ 0 ≤ r ∧ r ≤ 9)
theorem needStore_X {a b r : Int} {hp : List Ob} {Q : T → List Ob → Prop} {E : Exc → List Ob → Prop}
    (k : if stB a b r = true then Q (.val .non) hp else E stE hp) : wpcX mf_need_store [.tup [.int a, .int b, .int r]] hp Q E := by
  unfold mf_need_store
  rw [x_body]
  unfold m_need_store
  refine x_test ?_
  walk_at "ev"
  refine x_first ?_
  walk_at "ev"
  refine x_last ?_
  have raise : ¬ (1 ≤ a ∧ a ≤ 99 ∧ 0 ≤ b ∧ b ≤ a ∧ 0 ≤ r ∧ r ≤ 9) → ∀ sl, wpX (mRaise "BadStore") (fun f s => wEnd f fun t => Q t s.hp) (fun e s => E e s.hp) ⟨hp, sl⟩ := fun h sl => by
    rw [show stB a b r = false from decide_eq_false h, if_neg (fun z => nomatch z)] at k
    exact x_raise k
  walk_at "ev"
  by_cases h0 : (1 : Int) ≤ a
  case neg =>
    rw [decide_eq_false h0]
    walk_at "ev"
    exact raise (fun z => h0 z.1) _
  rw [decide_eq_true h0]
  walk_at "ev"
  by_cases h1 : a ≤ 99
  case neg =>
    rw [decide_eq_false h1]
    walk_at "ev"
    exact raise (fun z => h1 z.2.1) _
  rw [decide_eq_true h1]
  walk_at "ev"
  by_cases h2 : (0 : Int) ≤ b
  case neg =>
    rw [decide_eq_false h2]
    walk_at "ev"
    exact raise (fun z => h2 z.2.2.1) _
  rw [decide_eq_true h2]
  walk_at "ev"
  by_cases h3 : b ≤ a
  case neg =>
    rw [decide_eq_false h3]
    walk_at "ev"
    exact raise (fun z => h3 z.2.2.2.1) _
  rw [decide_eq_true h3]
  walk_at "ev"
  by_cases h4 : (0 : Int) ≤ r
  case neg =>
    rw [decide_eq_false h4]
    walk_at "ev"
    exact raise (fun z => h4 z.2.2.2.2.1) _
  rw [decide_eq_true h4]
  walk_at "ev"
  by_cases h5 : r ≤ 9
  case neg =>
    rw [decide_eq_false h5]
    walk_at "ev"
    exact raise (fun z => h5 z.2.2.2.2.2) _
  rw [decide_eq_true h5]
  walk_at "ev"
  rw [show stB a b r = true from decide_eq_true ⟨h0, h1, h2, h3, h4, h5⟩, if_pos rfl] at k
  exact k

def wBad (cap : Int) : Nat → List (List Step) → Option (Nat × Nat)
  | _, [] => none
  | i, m :: l => if i = 5 then some (5, 0) else match badAt cap 0 m with | some j => some (i, j) | none => wBad cap (i + 1) l
theorem needWorld_X {s : Step} {ms : List (List Step)} {hp : List Ob} {Q : T → List Ob → Prop} {E : Exc → List Ob → Prop}
    (k : if stB s.1 s.2.1 s.2.2 = true then (match wBad s.1 0 ms with | none => Q (.val .non) hp | some (i, j) => E (bsE i j) hp) else E stE hp) : wpcX mf_need_world [.tup [encS s, .tup (ms.map encM)]] hp Q E := by
  unfold mf_need_world
  rw [x_body]
  unfold m_need_world
  unfold encS
  refine x_first ?_
  walk_at "ev"
  rw [xNx_nx, x_seq]
  refine x_exprE (x_call ?_)
  walk_at "ev"
  refine needStore_X ?_
  cases hb : stB s.1 s.2.1 s.2.2 with
  | false =>
    rw [hb, if_neg (fun z => nomatch z)] at k
    rw [if_neg (fun z => nomatch z)]
    exact k
  | true =>
    rw [hb, if_pos rfl] at k
    rw [if_pos rfl, xNx_nx]
    refine x_for ?_
    walk_at "ev"
    refine wpX_loopE (fun i l st => ∃ s3 s4, wBad s.1 i l = wBad s.1 0 ms ∧ st = ⟨hp, [.val (.tup [.tup [.int s.1, .int s.2.1, .int s.2.2], .tup (ms.map encM)]), .val (.tup [.int s.1, .int s.2.1, .int s.2.2]), .val (.tup (ms.map encM)), s3, s4]⟩)
      ⟨_, _, rfl, rfl⟩ (fun i x xs st => ?_) (fun i st => ?_)
    · rintro ⟨s3, s4, hi, rfl⟩
      rw [wBad] at hi
      walk_at "ev"
      refine x_test ?_
      walk_at "ev"
      by_cases h5 : i = 5
      · rw [if_pos h5] at hi
        rw [← hi] at k
        subst h5
        rw [decide_eq_true (show ((5 : Nat) : Int) = 5 from rfl)]
        walk_at "ev"
        refine x_raiseK ?_
        walk_at "ev"
        exact k
      rw [if_neg h5] at hi
      rw [decide_eq_false (show ¬ (i : Int) = 5 by omega)]
      walk_at "ev"
      refine x_exprE (x_call ?_)
      walk_at "ev"
      refine needSteps_X ?_
      cases hb : badAt s.1 0 x with
      | some j =>
        rw [hb] at hi
        rw [← hi] at k
        exact k
      | none =>
        rw [hb] at hi
        exact ⟨_, _, hi, rfl⟩
    · rintro ⟨s3, s4, hi, rfl⟩
      rw [← hi] at k
      walk_at "ev"
      exact k
theorem spl_mem (S : List Nat) : ∀ (l : List Nat) (k : Nat) (acc : List Nat), (∀ p ∈ TL.spl S k acc l, (∀ c ∈ p, c ∈ acc ∨ c ∈ l) ∧ p.length ≤ acc.length + l.length) ∧ (TL.spl S k acc l).length ≤ l.length + 1 ∧ TL.spl S k acc l ≠ []
  | [], k, acc => by
    rw [TL.spl_nil]
    refine ⟨fun p hp => ?_, by simp, by simp⟩
    rw [List.mem_singleton.mp hp]
    exact ⟨fun c hc => .inl hc, by omega⟩
  | x :: l, 0, acc => by
    cases h : TL.pre S (x :: l) with
    | true =>
      rw [TL.spl_hit h]
      obtain ⟨h1, h2, h3⟩ := spl_mem S l (S.length - 1) []
      refine ⟨fun p hp => ?_, by simp only [List.length_cons]; omega, by simp⟩
      rcases List.mem_cons.mp hp with rfl | hp
      · exact ⟨fun c hc => .inl hc, by omega⟩
      · obtain ⟨g1, g2⟩ := h1 p hp
        exact ⟨fun c hc => (g1 c hc).elim (fun z => nomatch z) fun z => .inr (.tail _ z), by simp only [List.length_cons, List.length_nil] at g2 ⊢; omega⟩
    | false =>
      rw [TL.spl_miss h]
      obtain ⟨h1, h2, h3⟩ := spl_mem S l 0 (acc ++ [x])
      refine ⟨fun p hp => ?_, by simp only [List.length_cons]; omega, h3⟩
      obtain ⟨g1, g2⟩ := h1 p hp
      refine ⟨fun c hc => (g1 c hc).elim (fun z => ?_) fun z => .inr (.tail _ z), by simp only [List.length_append, List.length_cons, List.length_nil] at g2 ⊢; omega⟩
      rcases List.mem_append.mp z with z | z
      · exact .inl z
      · rw [List.mem_singleton.mp z]; exact .inr (.head _)
  | x :: l, k + 1, acc => by
    show (∀ p ∈ TL.spl S k acc l, _) ∧ (TL.spl S k acc l).length ≤ _ ∧ TL.spl S k acc l ≠ []
    obtain ⟨h1, h2, h3⟩ := spl_mem S l k acc
    refine ⟨fun p hp => ?_, by simp only [List.length_cons]; omega, h3⟩
    obtain ⟨g1, g2⟩ := h1 p hp
    exact ⟨fun c hc => (g1 c hc).elim .inl fun z => .inr (.tail _ z), by simp only [List.length_cons]; omega⟩
theorem split_small {t y : Str} {c : Nat} (h : Small t) (ey : TL.tl y = [c]) (hk : y.cps.all (· < 256) = true) : (∀ p ∈ Txt.split t y, Small p) ∧ (Txt.split t y).length ≤ 100001 ∧ Txt.split t y ≠ [] := by
  have e := TL.split_spl t y (by rw [ey]; simp) (TL.kind_ok hk)
  obtain ⟨h1, h2, h3⟩ := spl_mem (TL.tl y) (TL.tl t) 0 []
  rw [← e] at h1 h2 h3
  have hl := h.l
  rw [TL.len_tl] at hl
  refine ⟨fun p hp => ?_, by rw [List.length_map] at h2; omega, fun z => h3 (by rw [z]; rfl)⟩
  obtain ⟨g1, g2⟩ := h1 (TL.tl p) (List.mem_map.mpr ⟨p, hp, rfl⟩)
  exact ⟨fun c hc => (g1 c hc).elim (fun z => nomatch z) (h.a c), by rw [TL.len_tl]; simp only [List.length_nil] at g2; omega⟩
def wds (r : Str) : List Str := Txt.split r " "
def stp (w : Str) : Option Step := numP (Txt.split w ",")
def eWs (ws : List Str) : Val := .lst (ws.map .str)
def allO : List (Option Step) → Option (List Step)
  | [] => some []
  | none :: _ => none
  | some s :: l => (allO l).map (s :: ·)
def mRow : List Str → Option (List Step)
  | [] => none
  | h :: l => if h = "machine" then allO (l.map stp) else none
def pR : List (List Step) → Nat → List (List Str) → Nat ⊕ List (List Step)
  | acc, _, [] => .inr acc
  | acc, k, ws :: l => match mRow ws with | none => .inl k | some m => pR (acc ++ [m]) (k + 1) l
inductive Rs12
  | text (k : Nat)
  | store
  | step (m j : Nat)
  | told (s : Step) (ms : List (List Step))
def chk (s : Step) (ms : List (List Step)) : Rs12 := if stB s.1 s.2.1 s.2.2 = true then (match wBad s.1 0 ms with | some (i, j) => .step i j | none => .told s ms) else .store
def due0 (l : List (List Str)) (s : Step) : Rs12 := match pR [] 1 l with
  | .inl k => .text k
  | .inr ms => chk s ms
def due12 : List (List Str) → Rs12
  | (h :: r) :: l => if h = "store" then (match numP r with | none => .text 0 | some s => due0 l s) else .text 0
  | _ => .text 0
def encT (s : Step) (ms : List (List Step)) : Val := .tup [encS s, .tup (ms.map encM)]
def btE (k : Nat) : Exc := ⟨"BadText", [("row", .int (k : Int))]⟩
def rK (r : Rs12) (Q : Val → Prop) (E : Exc → Prop) : Prop := match r with
  | .text k => E (btE k)
  | .store => E stE
  | .step m j => E (bsE m j)
  | .told s ms => Q (encT s ms)
theorem allO_none {l : List (Option Step)} : allO l = none ↔ none ∈ l := by
  induction l with
  | nil => exact ⟨fun z => (nomatch z), fun z => (nomatch z)⟩
  | cons o l ih =>
    cases o with
    | none => exact ⟨fun _ => .head _, fun _ => rfl⟩
    | some s =>
      show (allO l).map _ = none ↔ _
      rw [Option.map_eq_none_iff, ih]
      exact ⟨.tail _, fun z => by cases z with | tail _ z => exact z⟩
theorem allO_some {l : List (Option Step)} : ∀ {r : List Step}, allO l = some r → l = r.map some := by
  induction l with
  | nil => intro r h; cases h; rfl
  | cons o l ih =>
    intro r h
    cases o with
    | none => cases h
    | some s =>
      have h : (allO l).map (s :: ·) = some r := h
      cases e : allO l with
      | none => rw [e] at h; cases h
      | some q => rw [e] at h; cases h; rw [ih e]; rfl
theorem dat_OS (o : Option Step) : dat 63 (encOS o) = true := by
  cases o with
  | none => unfold encOS; unfold dat; rfl
  | some s =>
    show dat 63 (encS s) = true
    unfold encS
    exact dat_tup (n := 62) fun v hv => by
      simp only [List.mem_cons, List.not_mem_nil, or_false] at hv
      rcases hv with rfl | rfl | rfl <;> exact dat_int
theorem none_in (l : List (Option Step)) : fInD false .non (.lst (l.map encOS)) = vB (decide (allO l = none)) := by
  have hd : dat 64 (.lst (l.map encOS)) = true := dat_lst (n := 63) fun v hv => by
    obtain ⟨s, _, rfl⟩ := List.mem_map.mp hv
    exact dat_OS s
  show (if dat 64 Val.non = true ∧ dat 64 (.lst (l.map encOS)) = true then vB (inD .non (l.map encOS)) else none) = _
  rw [if_pos ⟨by unfold dat; rfl, hd⟩]
  congr 1
  have e : ∀ o : Option Step, vEq (encOS o) .non = decide (o = none) := fun o => by cases o <;> rfl
  unfold inD
  rw [List.any_map]
  by_cases h : none ∈ l
  · rw [decide_eq_true (allO_none.mpr h), List.any_eq_true]
    exact ⟨none, h, rfl⟩
  · rw [decide_eq_false (fun z => h (allO_none.mp z)), List.any_eq_false]
    intro o ho z
    cases o with
    | none => exact h ho
    | some s => exact Bool.noConfusion z

end
section
local macro_rules | `(tactic| walk_at "ev") => `(tactic| simp (maxSteps := 1000000) -implicitDefEqProofs only [e_skip, e_bad, e_expr, e_seq, wNx_nx, wNx_brk, wNx_cnt, wNx_ret, wLp_nx, wLp_brk, wLp_cnt, wLp_ret, e_pure, e_ret, wGive_val, wGive_own, wGive_loc, e_if, e_ifE, e_not, e_and, e_or, e_tst, e_bool, e_yes, wB_bl, wI_int, wO_some, e_c, e_v, e_op1, e_op2, e_a0, e_a1, e_cb, e_chain, e_andV, e_orV, e_notV, e_take_val, e_take_own, e_take_loc, e_takes0, e_takes1, e_tup, e_lst, wBox_own, e_box, e_call, wEnd_nx, wEnd_ret, e_asg, e_gn_val, e_gn_own, e_gn_loc, e_gs0, e_gs1, e_gt, e_gsub, e_put_ref, e_put_loc, e_aug, e_for, e_loop0, e_items, wItems_tup, wItems_ktup, wItems_lst, wItems_scr, e_rng1, e_lrng, wEnu_tup, wEnu_lst, e_enum, e_ch, e_ch_loc, isL_loc, wDic_ref, e_dnew, e_dget, e_din, e_dput, e_comp, e_cloop0, view_val, view_own, view_loc, de_non, de_bl, de_int, de_str, de_tup, de_lst, de_scr, de_ty, de_ref, vw0, vw1, op2_some, op1_some, o_addI, o_addT, o_addL, o_i2, o_mod, o_div, o_pow, o_mulI, wIf_t, wIf_f, Int.reducePow, Int.reduceNeg, Int.reduceLT, Int.reduceLE, Int.reduceEq, Int.reduceNe, ne_eq, not_false_eq_true, Int.reduceToNat, true_or, or_true, and_self, cst0, cst1, cst2, cst3, cst4, cst5, cst6, cst7, cst8, cst9, eq_self, Int.reduceAdd, Int.reduceSub, Int.reduceMul, Nat.reducePow, o_c, o_ixL, o_ixT, at0, at1, at2, at3, at4, o_lenL, o_lenT, o_lenS, o_listL, o_listT, o_listS, o_tupL, o_tupT, o_max2, o_min2, o_eqI, o_neI, o_isN, o_notN, ch_app, map_some, Sm.isNon, isi1, isi2, tyN_NoneType, tyN_bool, tyN_int, tyN_str, tyN_tuple, tyN_list, okTy_bool, isTy_NoneType_bool, isTy_bool_bool, isTy_int_bool, isTy_str_bool, isTy_tuple_bool, isTy_list_bool, okTy_int, isTy_NoneType_int, isTy_bool_int, isTy_int_int, isTy_str_int, isTy_tuple_int, isTy_list_int, okTy_str, isTy_NoneType_str, isTy_bool_str, isTy_int_str, isTy_str_str, isTy_tuple_str, isTy_list_str, okTy_tuple, isTy_NoneType_tuple, isTy_bool_tuple, isTy_int_tuple, isTy_str_tuple, isTy_tuple_tuple, isTy_list_tuple, okTy_list, isTy_NoneType_list, isTy_bool_list, isTy_int_list, isTy_str_list, isTy_tuple_list, isTy_list_list, bind_some, o_eqB, o_neB, o_eqNN, o_eq00, get_end, set_end, key_encN, o_notInN, beq_self_eq_true, Bool.or_false, Bool.or_true, Bool.or_self, Bool.false_or, Bool.true_or, List.getElem?_cons_zero, List.getElem?_cons_succ, List.set_cons_zero, List.set_cons_succ, List.length_cons, List.length_nil, List.map_cons, List.map_nil, List.append_nil, List.nil_append, List.cons_append, Nat.zero_add, Nat.reduceAdd, Nat.reduceLeDiff, Nat.reduceLT, Nat.reduceSub, List.replicate, true_and, and_true, if_true, if_false, ite_true, ite_false, Bool.not_true, Bool.not_false, reduceCtorEq, decide_true, decide_false, decide_eq_true_eq, Bool.not_eq_true', decide_eq_false_iff_not, e_mt, e_sl, e_o0, e_o1, o_slL, o_slT, ixW0, ixW1, de_encW, de_encM, wItems_encM, tyS_str, o_addSt, List.length_set, List.length_map, List.length_append, wipeS, unwipe, e_itemsS, wStr_s])

theorem rows_small {t : Str} (h : Small t) : ∃ (h0 : Str) (w0 : List Str) (l : List (List Str)), (Txt.split t "\n").map wds = (h0 :: w0) :: l ∧ l.length ≤ 100000 ∧ ∀ ws ∈ (h0 :: w0) :: l, ws.length ≤ 100001 ∧ ws ≠ [] ∧ ∀ w ∈ ws, Small w := by
  obtain ⟨h1, h2, h3⟩ := split_small (y := "\n") (c := 10) h (by decide +kernel) (by decide +kernel)
  have key : ∀ ws ∈ (Txt.split t "\n").map wds, ws.length ≤ 100001 ∧ ws ≠ [] ∧ ∀ w ∈ ws, Small w := fun ws hws => by
    obtain ⟨r, hr, rfl⟩ := List.mem_map.mp hws
    obtain ⟨g1, g2, g3⟩ := split_small (y := " ") (c := 32) (h1 r hr) (by decide +kernel) (by decide +kernel)
    exact ⟨g2, g3, g1⟩
  cases e : Txt.split t "\n" with
  | nil => exact (h3 e).elim
  | cons a l =>
    rw [e] at key h2
    rw [List.map_cons] at key
    rw [List.map_cons]
    cases ea : wds a with
    | nil => exact ((key _ (.head _)).2.1 ea).elim
    | cons h0 w0 =>
      rw [ea] at key
      exact ⟨h0, w0, l.map wds, rfl, by rw [List.length_map]; simp only [List.length_cons] at h2; omega, key⟩
theorem lit_asc {z : Str} (h : (TL.tl z).all (fun c => decide (c < 128)) = true) : Asc z := asc_of h
theorem read_X {t : Str} {hp : List Ob} {Q : T → List Ob → Prop} {E : Exc → List Ob → Prop} (h : Small t)
    (k : rK (due12 ((Txt.split t "\n").map wds)) (fun v => Q (.val v) hp) (fun e => E e hp)) : wpcX mf_read [.str t] hp Q E := by
  have zS : Asc ("store" : Str) := asc_of (by decide +kernel)
  have zM : Asc ("machine" : Str) := asc_of (by decide +kernel)
  have hl := h.l
  have hs1 := (split_small (y := "\n") (c := 10) h (by decide +kernel) (by decide +kernel))
  obtain ⟨h0, w0, l, e, hll, hall⟩ := rows_small h
  unfold mf_read
  rw [x_body]
  unfold m_read
  refine x_first ?_
  walk_at "ev"
  rw [o_split (by decide +kernel) (by omega)]
  walk_at "ev"
  refine ⟨by have := hs1.2.1; omega, ?_⟩
  refine wp_cfilt (enc := Val.str) (fun _ => true) (fun q => eWs (wds q)) (fun st => ∃ s7 : Sl, st = ⟨hp, [.val (.str t), .no, .no, .no, .no, .no, .no, s7, .no]⟩) ⟨_, rfl⟩ (fun q hq st => ?_) (fun st => ?_)
  · rintro ⟨s7, rfl⟩
    walk_at "ev"
    have := (hs1.1 q hq).l
    rw [o_split (by decide +kernel) (by omega)]
    walk_at "ev"
    exact ⟨rfl, _, rfl⟩
  rintro ⟨s7, rfl⟩
  rw [List.filter_eq_self.mpr (fun _ _ => rfl)]
  rw [show (Txt.split t "\n").map (fun q => eWs (wds q)) = ((Txt.split t "\n").map wds).map eWs from by rw [List.map_map]; rfl]
  rw [e] at k ⊢
  obtain ⟨hn0, _, hw0⟩ := hall _ (.head _)
  simp only [List.length_cons] at hn0
  rw [List.map_cons, show eWs (h0 :: w0) = .lst (.str h0 :: w0.map .str) from rfl]
  walk_at "ev"
  rw [xNx_nx]
  refine x_test ?_
  walk_at "ev"
  rw [(eq_str (hw0 _ (.head _)).a zS).2]
  walk_at "ev"
  have hd : ∀ r, due12 ((h0 :: r) :: l) = if h0 = "store" then (match numP r with | none => .text 0 | some s => due0 l s) else .text 0 := fun _ => rfl
  rw [hd] at k
  clear hd
  have raise : ∀ s7, E (btE 0) hp → wpX (mRaiseK "BadText" ["row"] (mA1 (mC (.int 0)) mA0)) (fun _ _ => False) (fun e s => E e s.hp) ⟨hp, s7⟩ := fun s7 k => by
    refine x_raiseK ?_
    walk_at "ev"
    exact k
  by_cases g : h0 = "store"
  case neg =>
    rw [if_neg g] at k
    rw [decide_eq_false g]
    walk_at "ev"
    refine x_raiseK ?_
    walk_at "ev"
    exact k
  rw [if_pos g] at k
  rw [decide_eq_true g]
  walk_at "ev"
  rw [cut1, List.drop_succ_cons, List.drop_zero]
  refine numbers_A (fun w hw => hw0 w (.tail _ hw)) (by omega) ?_
  walk_at "ev"
  cases hs : numP w0 with
  | none =>
    rw [hs] at k
    unfold encOS
    walk_at "ev"
    refine x_raiseK ?_
    walk_at "ev"
    exact k
  | some s =>
    rw [hs] at k
    unfold encOS encS
    walk_at "ev"
    refine x_first ?_
    walk_at "ev"
    rw [xNx_nx, x_seq]
    refine x_for ?_
    walk_at "ev"
    rw [cut1, List.drop_succ_cons, List.drop_zero]
    generalize hRW : (Val.lst (Val.str h0 :: w0.map Val.str) :: l.map eWs) = RW at *
    have k : rK (due0 l s) (fun v => Q (.val v) hp) (fun e => E e hp) := k
    refine wpX_loopE (enc := eWs) (fun i l2 st => ∃ (ps : List (List Step)) (s3 s4 s5 s7 s8 : Sl), pR ps (i + 1) l2 = pR [] 1 l ∧ ps.length + l2.length ≤ 100000 ∧ (∀ ws ∈ l2, ws.length ≤ 100001 ∧ ws ≠ [] ∧ ∀ w ∈ ws, Small w) ∧ st = ⟨hp, [.val (.str t), .own RW, .own (ps.map encM), s3, s4, s5, .no, s7, s8]⟩)
      ⟨[], _, _, _, _, _, rfl, by simp only [List.length_nil]; omega, fun ws hws => hall ws (.tail _ hws), rfl⟩ (fun i ws l2 st => ?_) (fun i st => ?_)
    · rintro ⟨ps, s3, s4, s5, s7, s8, ep, hpl, hin, rfl⟩
      obtain ⟨hn1, hne, hw1⟩ := hin _ (.head _)
      simp only [List.length_cons] at hpl
      rw [pR] at ep
      cases ws with
      | nil => exact (hne rfl).elim
      | cons h1 w1 =>
        have hmr : mRow (h1 :: w1) = if h1 = "machine" then allO (w1.map stp) else none := rfl
        rw [hmr] at ep
        simp only [List.length_cons] at hn1
        rw [show eWs (h1 :: w1) = .lst (.str h1 :: w1.map .str) from rfl]
        walk_at "ev"
        refine x_first ?_
        walk_at "ev"
        rw [cut1, List.drop_succ_cons, List.drop_zero]
        refine ⟨by rw [List.length_map]; omega, ?_⟩
        refine wp_cfilt (enc := Val.str) (fun _ => true) (fun w => encOS (stp w)) (fun st => ∃ s8 : Sl, st = ⟨hp, [.val (.str t), .own RW, .own (ps.map encM), .val (.int i), .val (.lst (.str h1 :: w1.map .str)), s5, .no, s7, s8]⟩) ⟨_, rfl⟩ (fun w hw st => ?_) (fun st => ?_)
        · rintro ⟨s8, rfl⟩
          have hsm := hw1 w (.tail _ hw)
          have hsl := hsm.l
          have hsp := split_small (y := ",") (c := 44) hsm (by decide +kernel) (by decide +kernel)
          walk_at "ev"
          rw [o_split (by decide +kernel) (by omega)]
          walk_at "ev"
          refine numbers_A hsp.1 (by have := hsp.2.1; omega) ?_
          walk_at "ev"
          exact ⟨rfl, _, rfl⟩
        rintro ⟨s8, rfl⟩
        rw [List.filter_eq_self.mpr (fun _ _ => rfl)]
        rw [show w1.map (fun w => encOS (stp w)) = (w1.map stp).map encOS from by rw [List.map_map]; rfl]
        walk_at "ev"
        rw [xNx_nx]
        refine x_test ?_
        walk_at "ev"
        rw [(eq_str (hw1 _ (.head _)).a zM).2]
        walk_at "ev"
        have bad : mRow (h1 :: w1) = none → E (btE (i + 1)) hp := fun z => by
          rw [← hmr, z] at ep
          unfold due0 at k
          rw [← ep] at k
          exact k
        have hbt : btE (i + 1) = ⟨"BadText", [("row", .int ((i : Int) + 1))]⟩ := by
          unfold btE
          rw [Int.natCast_add]
          rfl
        rw [hbt] at bad
        by_cases g : h1 = "machine"
        case neg =>
          rw [decide_eq_false g]
          walk_at "ev"
          refine x_raiseK ?_
          walk_at "ev"
          exact bad (by rw [hmr, if_neg g])
        rw [decide_eq_true g]
        rw [if_pos g] at ep hmr
        walk_at "ev"
        rw [none_in]
        walk_at "ev"
        cases ho : allO (w1.map stp) with
        | none =>
          rw [decide_eq_true rfl]
          walk_at "ev"
          refine x_raiseK ?_
          walk_at "ev"
          exact bad (by rw [hmr, ho])
        | some m =>
          rw [ho] at ep
          rw [decide_eq_false (show ¬ ((some m : Option (List Step)) = none) by simp)]
          have hm : (w1.map stp).map encOS = m.map encS := by
            rw [allO_some ho, List.map_map]
            rfl
          have hml : m.length = w1.length := by
            have := congrArg List.length (allO_some ho)
            rw [List.length_map, List.length_map] at this
            exact this.symm
          rw [hm]
          clear bad
          walk_at "ev"
          refine wpX_of ?_
          walk_at "ev"
          refine ⟨by omega, ?_⟩
          rw [show ps.map encM ++ [Val.tup (m.map encS)] = (ps ++ [m]).map encM from by rw [List.map_append]; rfl]
          exact ⟨ps ++ [m], _, _, _, _, _, ep, by simp only [List.length_append, List.length_cons, List.length_nil]; omega, fun x hx => hin x (.tail _ hx), rfl⟩
    · rintro ⟨ps, s3, s4, s5, s7, s8, ep, hpl, hin, rfl⟩
      have ep : Sum.inr ps = pR [] 1 l := ep
      unfold due0 at k
      rw [← ep] at k
      have k : rK (chk s ps) (fun v => Q (.val v) hp) (fun e => E e hp) := k
      rw [← hRW]
      rw [xNx_nx]
      refine x_first ?_
      walk_at "ev"
      rw [cut1, List.drop_succ_cons, List.drop_zero]
      refine numbers_A (fun w hw => hw0 w (.tail _ hw)) (by omega) ?_
      rw [hs]
      unfold encOS encS
      walk_at "ev"
      rw [xNx_nx, x_seq]
      refine x_exprE (x_call ?_)
      walk_at "ev"
      rw [show Val.tup [Val.int s.1, Val.int s.2.1, Val.int s.2.2] = encS s from rfl]
      refine needWorld_X ?_
      unfold chk at k
      cases hb : stB s.1 s.2.1 s.2.2 with
      | false =>
        rw [hb, if_neg (fun z => nomatch z)] at k
        rw [if_neg (fun z => nomatch z)]
        exact k
      | true =>
        rw [hb, if_pos rfl] at k
        rw [if_pos rfl]
        cases hw : wBad s.1 0 ps with
        | some ij =>
          rw [hw] at k
          exact k
        | none =>
          rw [hw] at k
          dsimp only
          rw [xNx_nx]
          refine wpX_of ?_
          walk_at "ev"
          exact k

end
section
def wPar (i j : Nat) (QF : Fl → MS → Prop) (t1 t2 : T) (s : MS) : Prop := match t1, t2 with
  | .loc _, _ => False
  | _, .loc _ => False
  | t1, t2 => wp (mGN i t1) (fun _ s => wp (mGN j t2) (fun _ s => QF .nx s) s) s
theorem e_par {i j : Nat} {ma mb : M T} {QF : Fl → MS → Prop} {st : MS} : wp (mPar i j ma mb) QF st = wp ma (fun t1 s1 => wp mb (fun t2 s2 => wPar i j QF t1 t2 s2) s1) st := by
  refine (wp_bind (m := ma)).trans (wp_congr fun t1 s1 => (wp_bind (m := mb)).trans (wp_congr fun t2 s2 => ?_))
  unfold wPar
  cases t1 <;> cases t2 <;> first
    | rfl
    | exact (e_okU (u := fun st => (mGN i _ st).bind fun _ st3 => mGN j _ st3)).trans (wp_bind (m := mGN i _))
theorem wPar_oo {i j : Nat} {QF : Fl → MS → Prop} {s : MS} {a b : List Val} : wPar i j QF (.own a) (.own b) s = wp (mGN i (.own a)) (fun _ s => wp (mGN j (.own b)) (fun _ s => QF .nx s) s) s := rfl
theorem wPar_vv {i j : Nat} {QF : Fl → MS → Prop} {s : MS} {a b : Val} : wPar i j QF (.val a) (.val b) s = wp (mGN i (.val a)) (fun _ s => wp (mGN j (.val b)) (fun _ s => QF .nx s) s) s := rfl
theorem wPar_vo {i j : Nat} {QF : Fl → MS → Prop} {s : MS} {a : Val} {b : List Val} : wPar i j QF (.val a) (.own b) s = wp (mGN i (.val a)) (fun _ s => wp (mGN j (.own b)) (fun _ s => QF .nx s) s) s := rfl
theorem wPar_ov {i j : Nat} {QF : Fl → MS → Prop} {s : MS} {a : List Val} {b : Val} : wPar i j QF (.own a) (.val b) s = wp (mGN i (.own a)) (fun _ s => wp (mGN j (.val b)) (fun _ s => QF .nx s) s) s := rfl

end
section
local macro_rules | `(tactic| walk_at "ev") => `(tactic| simp (maxSteps := 1000000) -implicitDefEqProofs only [e_skip, e_bad, e_expr, e_seq, e_par, wPar_oo, wPar_vo, wPar_ov, wPar_vv, e_rng2, wNx_nx, wNx_brk, wNx_cnt, wNx_ret, wLp_nx, wLp_brk, wLp_cnt, wLp_ret, e_pure, e_ret, wGive_val, wGive_own, wGive_loc, e_if, e_ifE, e_not, e_and, e_or, e_tst, e_bool, e_yes, wB_bl, wI_int, wO_some, e_c, e_v, e_op1, e_op2, e_a0, e_a1, e_cb, e_chain, e_andV, e_orV, e_notV, e_take_val, e_take_own, e_take_loc, e_takes0, e_takes1, e_tup, e_lst, wBox_own, e_box, e_call, wEnd_nx, wEnd_ret, e_asg, e_gn_val, e_gn_own, e_gn_loc, e_gs0, e_gs1, e_gt, e_gsub, e_put_ref, e_put_loc, e_aug, e_for, e_loop0, e_items, wItems_tup, wItems_ktup, wItems_lst, wItems_scr, e_rng1, e_lrng, wEnu_tup, wEnu_lst, e_enum, e_ch, e_ch_loc, isL_loc, wDic_ref, e_dnew, e_dget, e_din, e_dput, e_comp, e_cloop0, view_val, view_own, view_loc, de_non, de_bl, de_int, de_str, de_tup, de_lst, de_scr, de_ty, de_ref, vw0, vw1, op2_some, op1_some, o_addI, o_addT, o_addL, o_i2, o_mod, o_div, o_pow, o_mulI, wIf_t, wIf_f, Int.reducePow, Int.reduceNeg, Int.reduceLT, Int.reduceLE, Int.reduceEq, Int.reduceNe, ne_eq, not_false_eq_true, Int.reduceToNat, true_or, or_true, and_self, cst0, cst1, cst2, cst3, cst4, cst5, cst6, cst7, cst8, cst9, eq_self, Int.reduceAdd, Int.reduceSub, Int.reduceMul, Nat.reducePow, o_c, o_ixL, o_ixT, at0, at1, at2, at3, at4, o_lenL, o_lenT, o_lenS, o_listL, o_listT, o_listS, o_tupL, o_tupT, o_max2, o_min2, o_eqI, o_neI, o_isN, o_notN, ch_app, map_some, Sm.isNon, isi1, isi2, tyN_NoneType, tyN_bool, tyN_int, tyN_str, tyN_tuple, tyN_list, okTy_bool, isTy_NoneType_bool, isTy_bool_bool, isTy_int_bool, isTy_str_bool, isTy_tuple_bool, isTy_list_bool, okTy_int, isTy_NoneType_int, isTy_bool_int, isTy_int_int, isTy_str_int, isTy_tuple_int, isTy_list_int, okTy_str, isTy_NoneType_str, isTy_bool_str, isTy_int_str, isTy_str_str, isTy_tuple_str, isTy_list_str, okTy_tuple, isTy_NoneType_tuple, isTy_bool_tuple, isTy_int_tuple, isTy_str_tuple, isTy_tuple_tuple, isTy_list_tuple, okTy_list, isTy_NoneType_list, isTy_bool_list, isTy_int_list, isTy_str_list, isTy_tuple_list, isTy_list_list, bind_some, o_eqB, o_neB, o_eqNN, o_eq00, get_end, set_end, key_encN, o_notInN, beq_self_eq_true, Bool.or_false, Bool.or_true, Bool.or_self, Bool.false_or, Bool.true_or, List.getElem?_cons_zero, List.getElem?_cons_succ, List.set_cons_zero, List.set_cons_succ, List.length_cons, List.length_nil, List.map_cons, List.map_nil, List.append_nil, List.nil_append, List.cons_append, Nat.zero_add, Nat.reduceAdd, Nat.reduceLeDiff, Nat.reduceLT, Nat.reduceSub, List.replicate, true_and, and_true, if_true, if_false, ite_true, ite_false, Bool.not_true, Bool.not_false, reduceCtorEq, decide_true, decide_false, decide_eq_true_eq, Bool.not_eq_true', decide_eq_false_iff_not, e_mt, e_sl, e_o0, e_o1, o_slL, o_slT, ixW0, ixW1, de_encW, de_encM, wItems_encM, tyS_str, o_addSt, List.length_set, List.length_map, List.length_append, wipeS, unwipe, e_itemsS, wStr_s])

def dueV : Rs12 → Val
  | .text k => .tup [.str "text", .int (k : Int)]
  | .store => .tup [.str "store", .int 0]
  | .step m j => .tup [.str "step", .tup [.int (m : Int), .int (j : Int)]]
  | .told s ms => .tup [.str "told", encT s ms]
theorem intR1 (n : Nat) : intR 1 n = (List.range n).map fun i : Nat => Val.int (1 + (i : Int)) := rfl
theorem rg_cons {i n x : Nat} {l : List Nat} (h : x :: l = List.range' i (n - i)) : x = i ∧ i < n ∧ l = List.range' (i + 1) (n - (i + 1)) := by
  cases hn : n - i with
  | zero => rw [hn] at h; cases h
  | succ m =>
    rw [hn, List.range'_succ] at h
    obtain ⟨h1, h2⟩ := List.cons.inj h
    exact ⟨h1, by omega, by rw [h2, show n - (i + 1) = m by omega]⟩
theorem rg_nil {i n : Nat} (h : [] = List.range' i (n - i)) : n ≤ i := by
  have := congrArg List.length h
  rw [List.length_range'] at this
  simp only [List.length_nil] at this
  omega
theorem numP_ok {ws : List Str} {s : Step} (h : numP ws = some s) : (0 ≤ s.1 ∧ s.1 ≤ 99) ∧ (0 ≤ s.2.1 ∧ s.2.1 ≤ 99) ∧ (0 ≤ s.2.2 ∧ s.2.2 ≤ 99) := by
  match ws, h with
  | [a, b, c], h =>
    by_cases g : okWd a = true ∧ okWd b = true ∧ okWd c = true
    · rw [num3_ok g] at h
      cases h
      exact ⟨⟨(ok_val g.1).2.1, (ok_val g.1).2.2.1⟩, ⟨(ok_val g.2.1).2.1, (ok_val g.2.1).2.2.1⟩, ⟨(ok_val g.2.2).2.1, (ok_val g.2.2).2.2.1⟩⟩
    · rw [num3_no g] at h
      cases h
def okN (s : Step) : Prop := (0 ≤ s.1 ∧ s.1 ≤ 99) ∧ (0 ≤ s.2.1 ∧ s.2.1 ≤ 99) ∧ (0 ≤ s.2.2 ∧ s.2.2 ≤ 99)
theorem mRow_ok {ws : List Str} {m : List Step} (h : mRow ws = some m) : ∀ s ∈ m, okN s := by
  match ws, h with
  | h1 :: w1, h =>
    have h : (if h1 = "machine" then allO (w1.map stp) else none) = some m := h
    split at h
    · intro s hs
      have e := allO_some h
      have : some s ∈ w1.map stp := by rw [e]; exact List.mem_map.mpr ⟨s, hs, rfl⟩
      obtain ⟨w, _, hw⟩ := List.mem_map.mp this
      exact numP_ok hw
    · cases h
theorem fInt_at {l : List (List Str)} {i : Nat} {ws : List Str} {l0 : Val} (h : l[i]? = some ws) : atI (l0 :: l.map eWs) (1 + (i : Int)) = some (eWs ws) := by
  have := atI_nat (xs := l0 :: l.map eWs) (j := i + 1) (v := eWs ws) (by
    rw [List.getElem?_cons_succ, List.getElem?_map, h]
    rfl)
  rw [show ((i + 1 : Nat) : Int) = 1 + (i : Int) from by omega] at this
  exact this
theorem m_at {ms : List (List Step)} {i : Nat} {m : List Step} (h : ms[i]? = some m) : atI (ms.map encM) (i : Int) = some (encM m) := atI_nat (by rw [List.getElem?_map, h]; rfl)
theorem s_at {m : List Step} {i : Nat} {s : Step} (h : m[i]? = some s) : atI (m.map encS) (i : Int) = some (encS s) := atI_nat (by rw [List.getElem?_map, h]; rfl)
theorem ldue_A {t : Str} {hp : List Ob} {Q : T → List Ob → Prop} (h : Small t)
    (k : Q (.val (dueV (due12 ((Txt.split t "\n").map wds)))) hp) : wpc mf__law_due [.str t] hp Q := by
  have zS : Asc ("store" : Str) := asc_of (by decide +kernel)
  have zM : Asc ("machine" : Str) := asc_of (by decide +kernel)
  have hl := h.l
  have hs1 := (split_small (y := "\n") (c := 10) h (by decide +kernel) (by decide +kernel))
  obtain ⟨h0, w0, l, e, hll, hall⟩ := rows_small h
  unfold mf__law_due
  rw [e_body]
  unfold m__law_due
  walk_at "ev"
  rw [o_split (by decide +kernel) (by omega)]
  walk_at "ev"
  refine ⟨by have := hs1.2.1; omega, ?_⟩
  refine wp_cfilt (enc := Val.str) (fun _ => true) (fun q => eWs (wds q)) (fun st => ∃ s13 : Sl, st = ⟨hp, [.val (.str t), .no, .no, .no, .no, .no, .no, .no, .no, .no, .no, .no, .no, s13, .no]⟩) ⟨_, rfl⟩ (fun q hq st => ?_) (fun st => ?_)
  · rintro ⟨s7, rfl⟩
    walk_at "ev"
    have := (hs1.1 q hq).l
    rw [o_split (by decide +kernel) (by omega)]
    walk_at "ev"
    exact ⟨rfl, _, rfl⟩
  rintro ⟨s7, rfl⟩
  rw [List.filter_eq_self.mpr (fun _ _ => rfl)]
  rw [show (Txt.split t "\n").map (fun q => eWs (wds q)) = ((Txt.split t "\n").map wds).map eWs from by rw [List.map_map]; rfl]
  rw [e] at k ⊢
  obtain ⟨hn0, _, hw0⟩ := hall _ (.head _)
  simp only [List.length_cons] at hn0
  rw [List.map_cons, show eWs (h0 :: w0) = .lst (.str h0 :: w0.map .str) from rfl]
  walk_at "ev"
  rw [cut1, List.drop_succ_cons, List.drop_zero]
  refine lnumbers_A (fun w hw => hw0 w (.tail _ hw)) (by omega) ?_
  walk_at "ev"
  rw [(eq_str (hw0 _ (.head _)).a zS).2]
  walk_at "ev"
  have hd : ∀ r, due12 ((h0 :: r) :: l) = if h0 = "store" then (match numP r with | none => .text 0 | some s => due0 l s) else .text 0 := fun _ => rfl
  rw [hd] at k
  clear hd
  by_cases g : h0 = "store"
  case neg =>
    rw [if_neg g] at k
    rw [decide_eq_false g]
    walk_at "ev"
    exact k
  rw [if_pos g] at k
  rw [decide_eq_true g]
  walk_at "ev"
  cases hs : numP w0 with
  | none =>
    rw [hs] at k
    unfold encOS
    walk_at "ev"
    exact k
  | some s =>
    rw [hs] at k
    unfold encOS encS
    walk_at "ev"
    generalize hRW : (Val.lst (Val.str h0 :: w0.map Val.str)) = R0 at *
    have k : Q (.val (dueV (due0 l s))) hp := k
    have hsN := numP_ok hs
    refine ⟨by omega, ?_⟩
    rw [show (((l.length + 1 : Nat) : Int) - 1).toNat = l.length by omega, intR1]
    refine wp_loop (enc := fun i : Nat => Val.int (1 + (i : Int))) (fun (xs : List Nat) st => ∃ (i : Nat) (ps : List (List Step)) (s4 s5 s13 s14 : Sl), xs = List.range' i (l.length - i) ∧ pR ps (i + 1) (l.drop i) = pR [] 1 l ∧ ps.length ≤ i ∧ i ≤ l.length ∧ (∀ m ∈ ps, m.length ≤ 100001 ∧ ∀ s ∈ m, okN s) ∧ st = ⟨hp, [.val (.str t), .own (R0 :: l.map eWs), .own (ps.map encM), .val (.tup [.int s.1, .int s.2.1, .int s.2.2]), s4, s5, .no, .no, .no, .no, .no, .no, .no, s13, s14]⟩)
      ⟨0, [], _, _, _, _, by rw [List.range_eq_range']; rfl, rfl, by simp, by omega, nofun, rfl⟩ (fun x xs st => ?_) (fun st => ?_)
    · rintro ⟨i, ps, s4, s5, s13, s14, ex, ep, hpl, hil, hok, rfl⟩
      obtain ⟨rfl, hi, ex⟩ := rg_cons ex
      have hin := hall _ (.tail _ (List.getElem_mem hi))
      have hat : l[x]? = some l[x] := List.getElem?_eq_getElem hi
      rw [List.drop_eq_getElem_cons hi, pR] at ep
      generalize l[x] = ws at hin hat ep
      obtain ⟨hn1, hne, hw1⟩ := hin
      cases ws with
      | nil => exact (hne rfl).elim
      | cons h1 w1 =>
        have hmr : mRow (h1 :: w1) = if h1 = "machine" then allO (w1.map stp) else none := rfl
        simp only [List.length_cons] at hn1
        have hix := fInt_at (l0 := R0) hat
        rw [show eWs (h1 :: w1) = .lst (.str h1 :: w1.map .str) from rfl] at hix
        walk_at "ev"
        rw [hix]
        walk_at "ev"
        rw [cut1, List.drop_succ_cons, List.drop_zero]
        refine ⟨by rw [List.length_map]; omega, ?_⟩
        refine wp_cfilt (enc := Val.str) (fun _ => true) (fun w => encOS (stp w)) (fun st => ∃ s14 : Sl, st = ⟨hp, [.val (.str t), .own (R0 :: l.map eWs), .own (ps.map encM), .val (.tup [.int s.1, .int s.2.1, .int s.2.2]), .val (.int (1 + (x : Int))), s5, .no, .no, .no, .no, .no, .no, .no, s13, s14]⟩) ⟨_, rfl⟩ (fun w hw st => ?_) (fun st => ?_)
        · rintro ⟨s14, rfl⟩
          have hsm := hw1 w (.tail _ hw)
          have hsl := hsm.l
          have hsp := split_small (y := ",") (c := 44) hsm (by decide +kernel) (by decide +kernel)
          walk_at "ev"
          rw [o_split (by decide +kernel) (by omega)]
          walk_at "ev"
          refine lnumbers_A hsp.1 (by have := hsp.2.1; omega) ?_
          walk_at "ev"
          exact ⟨rfl, _, rfl⟩
        rintro ⟨s14, rfl⟩
        rw [List.filter_eq_self.mpr (fun _ _ => rfl)]
        rw [show w1.map (fun w => encOS (stp w)) = (w1.map stp).map encOS from by rw [List.map_map]; rfl]
        walk_at "ev"
        rw [hix]
        walk_at "ev"
        rw [(eq_str (hw1 _ (.head _)).a zM).2]
        walk_at "ev"
        have bad : mRow (h1 :: w1) = none → Q (.val (.tup [.str "text", .int (1 + (x : Int))])) hp := fun z => by
          rw [z] at ep
          unfold due0 at k
          rw [← ep] at k
          have k : Q (.val (.tup [.str "text", .int ((x + 1 : Nat) : Int)])) hp := k
          rw [show ((x + 1 : Nat) : Int) = 1 + (x : Int) by omega] at k
          exact k
        by_cases g : h1 = "machine"
        case neg =>
          rw [decide_eq_false g]
          walk_at "ev"
          exact bad (by rw [hmr, if_neg g])
        rw [decide_eq_true g]
        rw [if_pos g] at hmr
        walk_at "ev"
        rw [none_in]
        walk_at "ev"
        cases ho : allO (w1.map stp) with
        | none =>
          rw [decide_eq_true rfl]
          walk_at "ev"
          exact bad (by rw [hmr, ho])
        | some m =>
          rw [hmr, ho] at ep
          rw [decide_eq_false (show ¬ ((some m : Option (List Step)) = none) by simp)]
          have hm : (w1.map stp).map encOS = m.map encS := by
            rw [allO_some ho, List.map_map]
            rfl
          rw [hm]
          have hml : m.length = w1.length := by
            have := congrArg List.length (allO_some ho)
            rw [List.length_map, List.length_map] at this
            exact this.symm
          have hmo := mRow_ok (hmr.trans ho)
          clear bad
          walk_at "ev"
          refine ⟨by omega, ?_⟩
          rw [show ps.map encM ++ [Val.tup (m.map encS)] = (ps ++ [m]).map encM from by rw [List.map_append]; rfl]
          refine ⟨x + 1, ps ++ [m], _, _, _, _, ex, ep, by simp only [List.length_append, List.length_cons, List.length_nil]; omega, by omega, fun y hy => ?_, rfl⟩
          rcases List.mem_append.mp hy with hy | hy
          · exact hok y hy
          · rw [List.mem_singleton.mp hy]; exact ⟨by omega, hmo⟩
    · rintro ⟨i, ps, s4, s5, s13, s14, ex, ep, hpl, hil, hok, rfl⟩
      have hi := rg_nil ex
      rw [List.drop_eq_nil_of_le hi] at ep
      have ep : Sum.inr ps = pR [] 1 l := ep
      unfold due0 at k
      rw [← ep] at k
      have k : Q (.val (dueV (chk s ps))) hp := k
      unfold chk at k
      clear ep ex
      walk_at "ev"
      have nost : ¬ (1 ≤ s.1 ∧ s.1 ≤ 99 ∧ 0 ≤ s.2.1 ∧ s.2.1 ≤ s.1 ∧ 0 ≤ s.2.2 ∧ s.2.2 ≤ 9) → Q (.val (.tup [.str "store", .int 0])) hp := fun z => by
        rw [show stB s.1 s.2.1 s.2.2 = false from decide_eq_false z, if_neg (fun z => nomatch z)] at k
        exact k
      by_cases h1 : s.1 < 1
      · rw [decide_eq_true h1]
        walk_at "ev"
        exact nost (by omega)
      rw [decide_eq_false h1]
      walk_at "ev"
      by_cases h2 : s.2.1 > s.1
      · rw [decide_eq_true (show s.1 < s.2.1 from h2)]
        walk_at "ev"
        exact nost (by omega)
      rw [decide_eq_false (show ¬ s.1 < s.2.1 from h2)]
      walk_at "ev"
      by_cases h3 : s.2.2 > 9
      · rw [decide_eq_true (show 9 < s.2.2 from h3)]
        walk_at "ev"
        exact nost (by omega)
      rw [decide_eq_false (show ¬ 9 < s.2.2 from h3)]
      rw [show stB s.1 s.2.1 s.2.2 = true from decide_eq_true (by omega), if_pos rfl] at k
      clear nost
      walk_at "ev"
      clear hw0 hall hs1 hRW hl h hn0 e
      generalize hR : (R0 :: l.map eWs) = RR
      refine ⟨by omega, ?_⟩
      rw [show ((ps.length : Int)).toNat = ps.length by omega, intR_map]
      refine wp_loop (enc := fun i : Nat => Val.int (i : Int)) (fun (xs : List Nat) st => ∃ (i : Nat) (s4 s9 s10 s11 s12 : Sl), xs = List.range' i (ps.length - i) ∧ wBad s.1 i (ps.drop i) = wBad s.1 0 ps ∧ i ≤ ps.length ∧ st = ⟨hp, [.val (.str t), .own RR, .own (ps.map encM), .val (.tup [.int s.1, .int s.2.1, .int s.2.2]), s4, s5, .val (.int s.1), .val (.int s.2.1), .val (.int s.2.2), s9, s10, s11, s12, s13, s14]⟩)
        ⟨0, _, _, _, _, _, by rw [List.range_eq_range']; rfl, rfl, by omega, rfl⟩ (fun x xs st => ?_) (fun st => ?_)
      · rintro ⟨i, s4, s9, s10, s11, s12, ex, ew, hil, rfl⟩
        obtain ⟨rfl, hi, ex⟩ := rg_cons ex
        have hmem := hok _ (List.getElem_mem hi)
        have hat : ps[x]? = some ps[x] := List.getElem?_eq_getElem hi
        rw [List.drop_eq_getElem_cons hi, wBad] at ew
        generalize ps[x] = m at hmem hat ew
        walk_at "ev"
        by_cases h5 : x = 5
        · subst h5
          rw [if_pos rfl] at ew
          rw [← ew] at k
          rw [decide_eq_true (show ((5 : Nat) : Int) = 5 from rfl)]
          walk_at "ev"
          exact k
        rw [if_neg h5] at ew
        rw [decide_eq_false (show ¬ (x : Int) = 5 by omega)]
        walk_at "ev"
        rw [m_at hat]
        rw [show encM m = .tup (m.map encS) from rfl]
        walk_at "ev"
        have bad : ∀ j, badAt s.1 0 m = some j → Q (.val (.tup [.str "step", .tup [.int (x : Int), .int (j : Int)]])) hp := fun j hj => by
          rw [hj] at ew
          rw [← ew] at k
          exact k
        have good : badAt s.1 0 m = none → wBad s.1 (x + 1) (ps.drop (x + 1)) = wBad s.1 0 ps := fun hj => by
          rw [hj] at ew
          exact ew
        clear ew k
        refine ⟨by have := hmem.1; omega, ?_⟩
        have hmem := hmem.2
        rw [show ((m.length : Int)).toNat = m.length by omega, intR_map]
        refine wp_loop (enc := fun i : Nat => Val.int (i : Int)) (fun (ys : List Nat) st => ∃ (j : Nat) (s9 s10 s11 s12 : Sl), ys = List.range' j (m.length - j) ∧ badAt s.1 j (m.drop j) = badAt s.1 0 m ∧ j ≤ m.length ∧ st = ⟨hp, [.val (.str t), .own RR, .own (ps.map encM), .val (.tup [.int s.1, .int s.2.1, .int s.2.2]), .val (.int (x : Int)), s5, .val (.int s.1), .val (.int s.2.1), .val (.int s.2.2), s9, s10, s11, s12, s13, s14]⟩)
          ⟨0, _, _, _, _, by rw [List.range_eq_range']; rfl, rfl, by omega, rfl⟩ (fun y ys st => ?_) (fun st => ?_)
        · rintro ⟨j, s9, s10, s11, s12, ey, eb, hjl, rfl⟩
          obtain ⟨rfl, hj, ey⟩ := rg_cons ey
          have hsm := hmem _ (List.getElem_mem hj)
          have hst : m[y]? = some m[y] := List.getElem?_eq_getElem hj
          rw [List.drop_eq_getElem_cons hj, badAt_cons] at eb
          generalize m[y] = d at hsm hst eb
          obtain ⟨hd1, hd2, hd3⟩ := hsm
          have bad2 : (y = 6 ∨ ¬ okS s.1 d) → Q (.val (.tup [.str "step", .tup [.int (x : Int), .int (y : Int)]])) hp := fun z => by
            rw [if_pos z] at eb
            exact bad y eb.symm
          have good2 : ¬ (y = 6 ∨ ¬ okS s.1 d) → badAt s.1 (y + 1) (m.drop (y + 1)) = badAt s.1 0 m := fun z => by
            rw [if_neg z] at eb
            exact eb
          clear eb bad good
          walk_at "ev"
          rw [m_at hat]
          rw [show encM m = .tup (m.map encS) from rfl]
          walk_at "ev"
          rw [s_at hst]
          rw [show encS d = .tup [.int d.1, .int d.2.1, .int d.2.2] from rfl]
          walk_at "ev"
          by_cases g0 : y = 6
          · subst g0
            rw [decide_eq_true (show ((6 : Nat) : Int) = 6 from rfl)]
            walk_at "ev"
            exact bad2 (.inl rfl)
          rw [decide_eq_false (show ¬ (y : Int) = 6 by omega)]
          walk_at "ev"
          by_cases g1 : s.1 < d.1
          · rw [decide_eq_true g1]
            walk_at "ev"
            exact bad2 (.inr fun z => by have := z.2.1; omega)
          rw [decide_eq_false g1]
          walk_at "ev"
          by_cases g2 : 1 ≤ d.2.1
          case neg =>
            rw [decide_eq_false g2]
            walk_at "ev"
            exact bad2 (.inr fun z => g2 z.2.2.1)
          rw [decide_eq_true g2]
          walk_at "ev"
          by_cases g3 : d.2.1 ≤ 9
          case neg =>
            rw [decide_eq_false g3]
            walk_at "ev"
            exact bad2 (.inr fun z => g3 z.2.2.2.1)
          rw [decide_eq_true g3]
          walk_at "ev"
          by_cases g4 : d.1 < d.2.2
          · rw [decide_eq_true g4]
            walk_at "ev"
            exact bad2 (.inr fun z => by have := z.2.2.2.2.2; omega)
          rw [decide_eq_false g4]
          walk_at "ev"
          exact ⟨y + 1, _, _, _, _, ey, good2 (fun z => z.elim g0 fun z => z ⟨hd1.1, by omega, g2, g3, hd3.1, by omega⟩), by omega, rfl⟩
        · rintro ⟨j, s9, s10, s11, s12, ey, eb, hjl, rfl⟩
          have hj := rg_nil ey
          rw [List.drop_eq_nil_of_le hj] at eb
          have eb : none = badAt s.1 0 m := eb
          walk_at "ev"
          exact ⟨x + 1, _, _, _, _, _, ex, good eb.symm, by omega, rfl⟩
      · rintro ⟨i, s4, s9, s10, s11, s12, ex, ew, hil, rfl⟩
        have hi := rg_nil ex
        rw [List.drop_eq_nil_of_le hi] at ew
        have ew : none = wBad s.1 0 ps := ew
        rw [← ew] at k
        walk_at "ev"
        exact k

end
section
local macro_rules | `(tactic| walk_at "ev") => `(tactic| simp (maxSteps := 1000000) -implicitDefEqProofs only [e_skip, e_bad, e_expr, e_seq, e_par, wPar_oo, wPar_vo, wPar_ov, wPar_vv, e_rng2, wNx_nx, wNx_brk, wNx_cnt, wNx_ret, wLp_nx, wLp_brk, wLp_cnt, wLp_ret, e_pure, e_ret, wGive_val, wGive_own, wGive_loc, e_if, e_ifE, e_not, e_and, e_or, e_tst, e_bool, e_yes, wB_bl, wI_int, wO_some, e_c, e_v, e_op1, e_op2, e_a0, e_a1, e_cb, e_chain, e_andV, e_orV, e_notV, e_take_val, e_take_own, e_take_loc, e_takes0, e_takes1, e_tup, e_lst, wBox_own, e_box, e_call, wEnd_nx, wEnd_ret, e_asg, e_gn_val, e_gn_own, e_gn_loc, e_gs0, e_gs1, e_gt, e_gsub, e_put_ref, e_put_loc, e_aug, e_for, e_loop0, e_items, wItems_tup, wItems_ktup, wItems_lst, wItems_scr, e_rng1, e_lrng, wEnu_tup, wEnu_lst, e_enum, e_ch, e_ch_loc, isL_loc, wDic_ref, e_dnew, e_dget, e_din, e_dput, e_comp, e_cloop0, view_val, view_own, view_loc, de_non, de_bl, de_int, de_str, de_tup, de_lst, de_scr, de_ty, de_ref, vw0, vw1, op2_some, op1_some, o_addI, o_addT, o_addL, o_i2, o_mod, o_div, o_pow, o_mulI, wIf_t, wIf_f, Int.reducePow, Int.reduceNeg, Int.reduceLT, Int.reduceLE, Int.reduceEq, Int.reduceNe, ne_eq, not_false_eq_true, Int.reduceToNat, true_or, or_true, and_self, cst0, cst1, cst2, cst3, cst4, cst5, cst6, cst7, cst8, cst9, eq_self, Int.reduceAdd, Int.reduceSub, Int.reduceMul, Nat.reducePow, o_c, o_ixL, o_ixT, at0, at1, at2, at3, at4, o_lenL, o_lenT, o_lenS, o_listL, o_listT, o_listS, o_tupL, o_tupT, o_max2, o_min2, o_eqI, o_neI, o_isN, o_notN, ch_app, map_some, Sm.isNon, isi1, isi2, tyN_NoneType, tyN_bool, tyN_int, tyN_str, tyN_tuple, tyN_list, okTy_bool, isTy_NoneType_bool, isTy_bool_bool, isTy_int_bool, isTy_str_bool, isTy_tuple_bool, isTy_list_bool, okTy_int, isTy_NoneType_int, isTy_bool_int, isTy_int_int, isTy_str_int, isTy_tuple_int, isTy_list_int, okTy_str, isTy_NoneType_str, isTy_bool_str, isTy_int_str, isTy_str_str, isTy_tuple_str, isTy_list_str, okTy_tuple, isTy_NoneType_tuple, isTy_bool_tuple, isTy_int_tuple, isTy_str_tuple, isTy_tuple_tuple, isTy_list_tuple, okTy_list, isTy_NoneType_list, isTy_bool_list, isTy_int_list, isTy_str_list, isTy_tuple_list, isTy_list_list, bind_some, o_eqB, o_neB, o_eqNN, o_eq00, get_end, set_end, key_encN, o_notInN, beq_self_eq_true, Bool.or_false, Bool.or_true, Bool.or_self, Bool.false_or, Bool.true_or, List.getElem?_cons_zero, List.getElem?_cons_succ, List.set_cons_zero, List.set_cons_succ, List.length_cons, List.length_nil, List.map_cons, List.map_nil, List.append_nil, List.nil_append, List.cons_append, Nat.zero_add, Nat.reduceAdd, Nat.reduceLeDiff, Nat.reduceLT, Nat.reduceSub, List.replicate, true_and, and_true, if_true, if_false, ite_true, ite_false, Bool.not_true, Bool.not_false, reduceCtorEq, decide_true, decide_false, decide_eq_true_eq, Bool.not_eq_true', decide_eq_false_iff_not, e_mt, e_sl, e_o0, e_o1, o_slL, o_slT, ixW0, ixW1, de_encW, de_encM, wItems_encM, tyS_str, o_addSt, List.length_set, List.length_map, List.length_append, wipeS, unwipe, e_itemsS, wStr_s])

theorem badAt_len {cap : Int} : ∀ {ss : List Step} {i : Nat}, badAt cap i ss = none → i ≤ 6 → i + ss.length ≤ 6
  | [], i, _, hi => by simpa using hi
  | s :: l, i, h, hi => by
    rw [badAt_cons] at h
    split at h
    · cases h
    · rename_i z
      have := badAt_len h (by omega)
      simp only [List.length_cons]
      omega
theorem wBad_len {cap : Int} : ∀ {ms : List (List Step)} {i : Nat}, wBad cap i ms = none → i ≤ 5 → i + ms.length ≤ 5 ∧ ∀ m ∈ ms, m.length ≤ 6
  | [], i, _, hi => ⟨by simpa using hi, nofun⟩
  | m :: l, i, h, hi => by
    rw [wBad] at h
    split at h
    · cases h
    · rename_i z
      cases hb : badAt cap 0 m with
      | some j => rw [hb] at h; cases h
      | none =>
        rw [hb] at h
        obtain ⟨h1, h2⟩ := wBad_len h (by omega)
        have h3 := badAt_len hb (by omega)
        refine ⟨by simp only [List.length_cons]; omega, fun x hx => ?_⟩
        rcases List.mem_cons.mp hx with rfl | hx
        · omega
        · exact h2 x hx
theorem al_step {n : Nat} (s : Step) : al (n + 2) (encS s) = true := by
  unfold encS
  rw [al_tup]
  rfl
theorem al_told {s : Step} {ms : List (List Step)} (h1 : ms.length ≤ 5) (h2 : ∀ m ∈ ms, m.length ≤ 6) : al 6 (.tup [.str "told", encT s ms]) = true := by
  rw [al_tup]
  have ht : al 5 (.str "told") = true := by
    show dat 64 (.str "told") = true
    unfold dat
    decide +kernel
  have hsm : small (ms.map encM) = true := by
    unfold small
    rw [List.length_map]
    exact decide_eq_true (by omega)
  have hM : ((ms.map encM).all (al 3)) = true := by
    rw [List.all_map]
    refine List.all_eq_true.mpr fun m hm => ?_
    show al 3 (encM m) = true
    unfold encM
    rw [al_tup, Bool.and_eq_true]
    constructor
    · unfold small
      rw [List.length_map]
      have := h2 m hm
      exact decide_eq_true (by omega)
    · rw [List.all_map]
      exact List.all_eq_true.mpr fun s _ => al_step (n := 0) s
  have hw : al 5 (encT s ms) = true := by
    unfold encT
    rw [al_tup, Bool.and_eq_true]
    refine ⟨rfl, ?_⟩
    simp only [List.all_cons, List.all_nil, Bool.and_true, Bool.and_eq_true]
    refine ⟨al_step (n := 2) s, ?_⟩
    rw [al_tup, hsm, hM]
    rfl
  rw [Bool.and_eq_true]
  refine ⟨rfl, ?_⟩
  simp only [List.all_cons, List.all_nil, Bool.and_true, Bool.and_eq_true]
  exact ⟨ht, hw⟩
theorem dat_str {n : Nat} {z : Str} (h : Asc z) : dat n (.str z) = true := dat_asc h n
theorem al_pair {w : Str} {v : Val} (hw : Asc w) (hv : al 5 v = true) : al 6 (.tup [.str w, v]) = true := by
  rw [al_tup, Bool.and_eq_true]
  refine ⟨rfl, ?_⟩
  simp only [List.all_cons, List.all_nil, Bool.and_true, Bool.and_eq_true]
  exact ⟨dat_asc hw 64, hv⟩
def good12 (r : Rs12) : Prop := match r with
  | .told _ ms => ms.length ≤ 5 ∧ ∀ m ∈ ms, m.length ≤ 6
  | _ => True
theorem al_due {r : Rs12} (h : good12 r) : al 6 (dueV r) = true := by
  cases r with
  | text k => exact al_pair (asc_of (by decide +kernel)) rfl
  | store => exact al_pair (asc_of (by decide +kernel)) rfl
  | step m j => exact al_pair (asc_of (by decide +kernel)) (by rw [al_tup]; rfl)
  | told s ms => exact al_told h.1 h.2
theorem good_due (rows : List (List Str)) : good12 (due12 rows) := by
  have hc : ∀ s ms, good12 (chk s ms) := fun s ms => by
    unfold chk
    split
    · cases hw : wBad s.1 0 ms with
      | some ij => exact trivial
      | none =>
        obtain ⟨h1, h2⟩ := wBad_len hw (by omega)
        exact ⟨by omega, h2⟩
    · exact trivial
  have h0 : ∀ l s, good12 (due0 l s) := fun l s => by
    unfold due0
    cases pR [] 1 l with
    | inl k => exact trivial
    | inr ms => exact hc s ms
  match rows with
  | [] => exact trivial
  | [] :: _ => exact trivial
  | (h :: r) :: l =>
    show good12 (if h = "store" then (match numP r with | none => .text 0 | some s => due0 l s) else .text 0)
    split
    · cases numP r with
      | none => exact trivial
      | some s => exact h0 l s
    · exact trivial
theorem dat_say0 : dat 64 (.tup [.str "", .int 0]) = true := by
  unfold dat dats
  decide +kernel
theorem eq_say : fEq (.tup [.str "", .int 0]) (.tup [.str "", .int 0]) = vB true := by
  unfold fEq
  rw [if_pos ⟨dat_say0, dat_say0⟩]
  rfl
theorem eq_no {w : Str} {v : Val} (h : dat 64 (.tup [.str w, v]) = true) (hw : w ≠ "") : fEq (.tup [.str w, v]) (.tup [.str "", .int 0]) = vB false := by
  unfold fEq
  rw [if_pos ⟨h, dat_say0⟩]
  have : vEq (.tup [.str w, v]) (.tup [.str "", .int 0]) = false := by
    show ((w == "") && _) = false
    rw [beq_eq_false_iff_ne.mpr hw]
    rfl
  rw [this]
theorem dat_wv {w : Str} {v : Val} (h1 : Asc w) (h2 : dat 63 v = true) : dat 64 (.tup [.str w, v]) = true := by
  refine dat_tup (n := 63) fun x hx => ?_
  simp only [List.mem_cons, List.not_mem_nil, or_false] at hx
  rcases hx with rfl | rfl
  · exact dat_asc h1 63
  · exact h2
theorem kind12 {r : Rs12} {e : Exc} {Q : Val → Prop} (hr : rK r Q (· = e)) (hn : ∀ v, ¬ Q v) : ∃ w v, kOut e.cls (e.fs.map (·.1)) (e.fs.map (·.2)) = some (.tup [.str w, v]) ∧ w ≠ "" ∧ dat 64 (.tup [.str w, v]) = true ∧ dueV r = .tup [.str w, v] := by
  cases r with
  | text k => cases hr; exact ⟨"text", .int k, rfl, by decide +kernel, dat_wv (asc_of (by decide +kernel)) dat_int, rfl⟩
  | store => cases hr; exact ⟨"store", .int 0, rfl, by decide +kernel, dat_wv (asc_of (by decide +kernel)) dat_int, rfl⟩
  | step m j => cases hr; exact ⟨"step", .tup [.int m, .int j], rfl, by decide +kernel, dat_wv (asc_of (by decide +kernel)) rfl, rfl⟩
  | told s ms => exact (hn _ hr).elim
def oddT : List Str := ["", "store", "store 1 2", "store 1  2 3", "store 01 0 1", "store 100 0 1", "store 0 0 0", "store 5 6 0", "store 5 5 10", "machine 1,1", "machine 1,1,1,1", "machine 1,0,0", "machine 1,1,2", "machine x,1,0", "machine 1,1,0 ", "Machine", "machine 99,1,0", " machine", "machine 1,10,0", "machine 00,1,0", "machine 0,1,0 0,1,0 0,1,0 0,1,0 0,1,0 0,1,0 0,1,0"]
/-- a row of a drawn text -/
structure Row (z : Str) : Prop where
  a : Asc z
  l : z.length ≤ 200
theorem odd_row : ∀ z ∈ oddT, Row z := fun z hz => by
  have : oddT.all (fun z => (TL.tl z).all (fun c => decide (c < 128)) && decide (z.length ≤ 200)) = true := by decide +kernel
  have := List.all_eq_true.mp this z hz
  rw [Bool.and_eq_true] at this
  exact ⟨asc_of this.1, of_decide_eq_true this.2⟩
theorem row_rows {w : Wd} (h : w.Ok) : ∀ z ∈ rowsL w, Row z := fun z hz => by
  refine ⟨fun c hc => ?_, by have := rows_len h z hz; omega⟩
  have := rows_chars (okW h) z hz c hc
  have hp : ∀ c, pRow c = true → c < 128 := fun c hc => by
    unfold pRow pStep pDig at hc
    simp only [Bool.or_eq_true, decide_eq_true_eq, Bool.and_eq_true] at hc
    omega
  exact hp c this
theorem slice_asc {z : Str} (h : Asc z) (lo hi : Option Int) : Asc (Txt.slice z lo hi) := fun c hc => by
  rw [← C8.cutS_slice] at hc
  have hc : c ∈ (z.cps.toList.drop _).take _ := hc
  exact h c (List.mem_of_mem_drop (List.mem_of_mem_take hc))
theorem app_asc {a b : Str} (ha : Asc a) (hb : Asc b) : Asc (a ++ b) := fun c hc => by
  rw [TL.tl_append] at hc
  rcases List.mem_append.mp hc with hc | hc
  · exact ha c hc
  · exact hb c hc
theorem app_len {a b : Str} : (a ++ b).length = a.length + b.length := by
  rw [TL.len_tl, TL.tl_append, List.length_append, ← TL.len_tl, ← TL.len_tl]
theorem join_asc {y : Str} {ps : List Str} (hy : Asc y) (h : ∀ q ∈ ps, Asc q) : Asc (Txt.join y ps) := fun c hc => by
  rw [TL.join_eq, TL.tl_join] at hc
  rcases joinL_mem hc with hc | ⟨q, hq, hc⟩
  · exact hy c hc
  · obtain ⟨z, hz, rfl⟩ := List.mem_map.mp hq
    exact h z hz c hc
def cutL {α : Type} (l : List α) (lo hi : Option Int) : List α := (l.drop (HT.sIx l.length 0 lo)).take (HT.sIx l.length l.length hi - HT.sIx l.length 0 lo)
theorem cut_map {α : Type} (l : List α) (f : α → Val) (lo hi : Option Int) : Sm.cutS (l.map f) lo hi = (cutL l lo hi).map f := by
  unfold Sm.cutS cutL
  rw [List.length_map, List.map_take, List.map_drop]
theorem cut_mem {α : Type} {l : List α} {lo hi : Option Int} {x : α} (h : x ∈ cutL l lo hi) : x ∈ l := List.mem_of_mem_drop (List.mem_of_mem_take h)
theorem cut_len {α : Type} {l : List α} {lo hi : Option Int} : (cutL l lo hi).length ≤ l.length := by
  unfold cutL
  rw [List.length_take, List.length_drop]
  omega
theorem at_in {α : Type} {l : List α} {f : α → Val} {i : Int} (h0 : 0 ≤ i) (h1 : i < l.length) : ∃ z ∈ l, atI (l.map f) i = some (f z) := by
  have hj : i.toNat < l.length := by omega
  refine ⟨l[i.toNat], List.getElem_mem hj, ?_⟩
  have := atI_nat (xs := l.map f) (j := i.toNat) (v := f l[i.toNat]) (by
    rw [List.getElem?_map, List.getElem?_eq_getElem hj]
    rfl)
  rw [show ((i.toNat : Nat) : Int) = i from by omega] at this
  exact this
theorem sign_at {v : Int} (h0 : 0 ≤ v) (h1 : v < 6) : ∃ c, c < 128 ∧ fIx (.str "a0 9,\n") (.int v) = some (.val (.str ⟨#[c]⟩)) := by
  have : v = 0 ∨ v = 1 ∨ v = 2 ∨ v = 3 ∨ v = 4 ∨ v = 5 := by omega
  rcases this with rfl | rfl | rfl | rfl | rfl | rfl
  · exact ⟨97, by omega, rfl⟩
  · exact ⟨48, by omega, rfl⟩
  · exact ⟨32, by omega, rfl⟩
  · exact ⟨57, by omega, rfl⟩
  · exact ⟨44, by omega, rfl⟩
  · exact ⟨10, by omega, rfl⟩
theorem fAdd_str {a b : Str} (h : a.length + b.length ≤ 16777216) : fAdd (.str a) (.str b) = some (.val (.str (a ++ b))) := by
  show (if a.length + b.length ≤ 16777216 then some (T.val (.str (a ++ b))) else none) = _
  rw [if_pos h]
/-- rows of a text -/
structure Rws (l : List Str) : Prop where
  r : ∀ z ∈ l, Row z
  n : l.length ≤ 20
theorem Rws.app {a b : List Str} (ha : ∀ z ∈ a, Row z) (hb : ∀ z ∈ b, Row z) (h : a.length + b.length ≤ 20) : Rws (a ++ b) := ⟨fun z hz => (List.mem_append.mp hz).elim (ha z) (hb z), by rw [List.length_append]; exact h⟩
theorem law_wp (ns : List Int) (hl : ns.length ≤ 63) (LD : Nat → LamD) : wpc (mf_law LD) [.scr (ns.map .int)] [] fun t _ => t = .val (.bl true) := by
  unfold mf_law
  rw [e_body]
  unfold m_law
  walk_at "ev"
  refine mix_wp hl fun hp hrg => ?_
  walk_at "ev"
  rw [intR_map]
  refine wp_loop (enc := fun i : Nat => Val.int (i : Int)) (fun (xs : List Nat) st => ∃ (hp : List Ob) (s3 s4 s5 s6 s7 s8 s9 s10 s11 s12 s13 s14 : Sl), Rg [] hp ∧ st = ⟨hp, [.val (.scr (ns.map .int)), .val (.ref 1), .own (oddT.map .str), s3, s4, s5, s6, s7, s8, s9, s10, s11, s12, s13, s14]⟩)
    ⟨hp, _, _, _, _, _, _, _, _, _, _, _, _, hrg, rfl⟩ (fun x xs st => ?_) (fun st => ?_)
  · rintro ⟨hp, s3, s4, s5, s6, s7, s8, s9, s10, s11, s12, s13, s14, hrg, rfl⟩
    walk_at "ev"
    refine world_wp hrg (by omega) (by omega) (by omega) (by omega) fun w hp hrg hw _ _ _ => ?_
    walk_at "ev"
    refine ltext_wp hw ?_
    walk_at "ev"
    rw [o_split (by decide +kernel) (by have := text_len hw; omega), split_text (okW hw)]
    walk_at "ev"
    have hrows := row_rows hw
    have hrl : (rowsL w).length = w.ms.length + 1 := by unfold rowsL; rw [List.length_cons, List.length_map]
    have hwn := hw.n
    generalize rowsL w = R at *
    refine next_wp hrg (by omega) (by omega) fun v1 hp hrg _ _ => ?_
    walk_at "ev"
    refine next_wp hrg (by omega) (by omega) fun v2 hp hrg _ _ => ?_
    walk_at "ev"
    rw [cut_map, cut_map, cut_map, cut_map, show fRev (.lst (R.map Val.str)) = some (.own (R.map Val.str).reverse) from rfl, ← List.map_reverse]
    have c1 : (cutL R none (some v1)).length ≤ R.length := cut_len
    have c2 : (cutL R (some (v1 + 1)) none).length ≤ R.length := cut_len
    have c3 : (cutL R none (some (v1 + 1))).length ≤ R.length := cut_len
    have c4 : (cutL R (some v1) none).length ≤ R.length := cut_len
    have d1 : ∀ z ∈ cutL R none (some v1), Row z := fun z hz => hrows z (cut_mem hz)
    have d2 : ∀ z ∈ cutL R (some (v1 + 1)) none, Row z := fun z hz => hrows z (cut_mem hz)
    have d3 : ∀ z ∈ cutL R none (some (v1 + 1)), Row z := fun z hz => hrows z (cut_mem hz)
    have d4 : ∀ z ∈ cutL R (some v1) none, Row z := fun z hz => hrows z (cut_mem hz)
    rw [List.length_map, List.length_map, List.length_map, List.length_map]
    refine ⟨by omega, by omega, ?_⟩
    walk_at "ev"
    refine next_wp hrg (by omega) (by omega) fun v3 hp hrg _ _ => ?_
    walk_at "ev"
    obtain ⟨z3, hz3, e3⟩ := at_in (l := oddT) (f := Val.str) (i := v3) (by omega) (by show v3 < 21; omega)
    rw [e3]
    walk_at "ev"
    rw [cut_map, cut_map, List.length_map, List.length_map]
    refine ⟨by omega, by omega, ?_⟩
    refine next_wp hrg (by omega) (by omega) fun v4 hp hrg _ _ => ?_
    walk_at "ev"
    obtain ⟨z4, hz4, e4⟩ := at_in (l := oddT) (f := Val.str) (i := 9 + v4) (by omega) (by show 9 + v4 < 21; omega)
    rw [e4]
    walk_at "ev"
    refine ⟨by omega, ?_⟩
    have one3 : ∀ z ∈ [z3], Row z := fun z hz => by rw [List.mem_singleton.mp hz]; exact odd_row z3 hz3
    have one4 : ∀ z ∈ [z4], Row z := fun z hz => by rw [List.mem_singleton.mp hz]; exact odd_row z4 hz4
    generalize cutL R none (some v1) = C1 at *
    generalize cutL R (some (v1 + 1)) none = C2 at *
    generalize cutL R none (some (v1 + 1)) = C3 at *
    generalize cutL R (some v1) none = C4 at *
    have hLL : [Val.lst (C1.map Val.str ++ C2.map Val.str), .lst (C3.map Val.str ++ C4.map Val.str), .lst (R.map Val.str), .lst (R.reverse.map Val.str), .lst (C1.map Val.str ++ [Val.str z3] ++ C2.map Val.str), .lst (R.map Val.str ++ [Val.str z4])] = [C1 ++ C2, C3 ++ C4, R, R.reverse, C1 ++ [z3] ++ C2, R ++ [z4]].map eWs := by
      simp only [List.map_cons, List.map_nil, eWs, List.map_append]
    have hall : ∀ L ∈ [C1 ++ C2, C3 ++ C4, R, R.reverse, C1 ++ [z3] ++ C2, R ++ [z4]], Rws L := fun L hL => by
      simp only [List.mem_cons, List.not_mem_nil, or_false] at hL
      rcases hL with rfl | rfl | rfl | rfl | rfl | rfl
      · exact Rws.app d1 d2 (by omega)
      · exact Rws.app d3 d4 (by omega)
      · exact ⟨hrows, by omega⟩
      · exact ⟨fun z hz => hrows z (List.mem_reverse.mp hz), by rw [List.length_reverse]; omega⟩
      · refine Rws.app (fun z hz => (List.mem_append.mp hz).elim (d1 z) (one3 z)) d2 ?_
        simp only [List.length_append, List.length_cons, List.length_nil]
        omega
      · exact Rws.app hrows one4 (by simp only [List.length_cons, List.length_nil]; omega)
    rw [hLL]
    obtain ⟨L, hL, eL⟩ := at_in (l := [C1 ++ C2, C3 ++ C4, R, R.reverse, C1 ++ [z3] ++ C2, R ++ [z4]]) (f := eWs) (i := v2) (by omega) (by show v2 < 6; omega)
    rw [eL]
    generalize ([C1 ++ C2, C3 ++ C4, R, R.reverse, C1 ++ [z3] ++ C2, R ++ [z4]].map eWs) = LL
    have hL := hall L hL
    clear hall one3 one4 d1 d2 d3 d4 c1 c2 c3 c4 hLL eL e3 e4
    rw [show eWs L = .lst (L.map .str) from rfl]
    walk_at "ev"
    have hsum : (L.map (·.length)).sum ≤ L.length * 200 := sum_len_le fun z hz => (hL.r z hz).l
    have hLn := hL.n
    have hjl : (L.map (·.length)).sum + L.length * (Str.length "\n") ≤ 10000 := by
      show _ + L.length * 1 ≤ _
      omega
    rw [o_join (by omega)]
    have hT : (Txt.join "\n" L).length ≤ 10000 := Nat.le_trans join_len hjl
    have aT : Asc (Txt.join "\n" L) := join_asc (asc_of (by decide +kernel)) fun q hq => (hL.r q hq).a
    generalize Txt.join "\n" L = X at *
    walk_at "ev"
    have hlen : fLen [.str X] = vI X.length := by
      show (if X.length ≤ 16777216 then vI X.length else none) = _
      rw [if_pos (by omega)]
    rw [hlen]
    walk_at "ev"
    refine next_wp hrg (by omega) (by omega) fun v5 hp hrg _ _ => ?_
    walk_at "ev"
    have hsl : ∀ lo hi, fSlS (.str X) lo hi = some (.val (.str (Txt.slice X lo hi))) := fun lo hi => by
      show (if X.length ≤ 16777216 then some (T.val (.str (Txt.slice X lo hi))) else none) = _
      rw [if_pos (by omega)]
    rw [hsl]
    walk_at "ev"
    refine next_wp hrg (by omega) (by omega) fun v6 hp hrg _ _ => ?_
    walk_at "ev"
    obtain ⟨c, hc, e6⟩ := sign_at (v := v6) (by omega) (by omega)
    rw [e6]
    have l1 : (Txt.slice X none (some v5)).length ≤ X.length := Txt.slice_le ..
    have a1 := slice_asc aT none (some v5)
    have lc : (⟨#[c]⟩ : Str).length = 1 := rfl
    have ac := asc1 hc
    generalize Txt.slice X none (some v5) = X1 at *
    generalize (⟨#[c]⟩ : Str) = X2 at *
    rw [wO_some]
    walk_at "ev"
    refine ⟨by omega, ?_⟩
    refine next_wp hrg (by omega) (by omega) fun v7 hp hrg _ _ => ?_
    walk_at "ev"
    rw [hsl]
    have l3 : (Txt.slice X (some (v5 + v7)) none).length ≤ X.length := Txt.slice_le ..
    have a3 := slice_asc aT (some (v5 + v7)) none
    generalize Txt.slice X (some (v5 + v7)) none = X3 at *
    walk_at "ev"
    have l12 : (X1 ++ X2).length = X1.length + X2.length := app_len
    have a12 := app_asc a1 ac
    generalize X1 ++ X2 = X4 at *
    refine ⟨by omega, ?_⟩
    have l4 : (X4 ++ X3).length = X4.length + X3.length := app_len
    have a4 := app_asc a12 a3
    generalize X4 ++ X3 = X5 at *
    have zn : ("\n" : Str).length = 1 := by decide +kernel
    refine ⟨by omega, ?_⟩
    have l5 : (X ++ ("\n" : Str)).length = X.length + ("\n" : Str).length := app_len
    have a5 := app_asc aT (asc_of (z := "\n") (by decide +kernel))
    generalize X ++ ("\n" : Str) = X6 at *
    have hX : ∀ z ∈ [X, X5, X6], Small z := fun z hz => by
      simp only [List.mem_cons, List.not_mem_nil, or_false] at hz
      rcases hz with rfl | rfl | rfl
      · exact ⟨aT, by omega⟩
      · exact ⟨a4, by omega⟩
      · exact ⟨a5, by omega⟩
    generalize Sl.own LL = s7
    generalize Sl.val (Val.int v5) = s9
    generalize Sl.val (Val.str X5) = s10
    generalize Sl.val (Val.str X) = s8
    generalize Sl.val (Val.int (x : Int)) = s3
    generalize Sl.val (Val.lst (R.map Val.str)) = s4
    generalize Sl.val (Val.int v1) = s5
    generalize Sl.val (Val.int v2) = s6
    rw [show [Val.str X, Val.str X5, Val.str X6] = [X, X5, X6].map Val.str from rfl]
    clear hsl hlen hLn hsum hjl hL l1 a1 lc ac l3 a3 l12 a12 l4 a4 zn l5 a5 hT aT e6 hc hrows hrl hwn
    generalize [X, X5, X6] = XS at hX
    refine wp_loop (enc := Val.str) (fun (ts : List Str) st => ∃ (s11 s12 s13 s14 : Sl), (∀ z ∈ ts, Small z) ∧ st = ⟨hp, [.val (.scr (ns.map .int)), .val (.ref 1), .own (oddT.map .str), s3, s4, s5, s6, s7, s8, s9, s10, s11, s12, s13, s14]⟩)
      ⟨_, _, _, _, hX, rfl⟩ (fun t ts st => ?_) (fun st => ?_)
    · rintro ⟨s11, s12, s13, s14, hts, rfl⟩
      have ht := hts t (.head _)
      have hts := fun z hz => hts z (.tail _ hz)
      have hal := al_due (good_due ((Txt.split t "\n").map wds))
      walk_at "ev"
      refine wp_kindX (x_ch1 ?_)
      walk_at "ev"
      refine x_call ?_
      walk_at "ev"
      refine read_X ht ?_
      have hdue : ∀ {hp : List Ob} {Q : T → List Ob → Prop}, Q (.val (dueV (due12 ((Txt.split t "\n").map wds)))) hp → wpc mf__law_due [.str t] hp Q := fun k => ldue_A ht k
      generalize hr : due12 ((Txt.split t "\n").map wds) = r at hdue hal ⊢
      have bad : ∀ e, rK r (fun _ => False) (· = e) → ∃ w v, kOut e.cls (e.fs.map (·.1)) (e.fs.map (·.2)) = some (.tup [.str w, v]) ∧ w ≠ "" ∧ dat 64 (.tup [.str w, v]) = true ∧ dueV r = .tup [.str w, v] := fun e he => kind12 he (fun _ z => z)
      cases r with
      | told s ms =>
        unfold rK
        dsimp only
        walk_at "ev"
        rw [eq_say]
        walk_at "ev"
        refine hdue ?_
        walk_at "ev"
        refine alike_wp 6 hal ?_
        walk_at "ev"
        exact ⟨_, _, _, _, hts, rfl⟩
      | text k =>
        obtain ⟨w, v, b1, b2, b3, b4⟩ := bad (btE k) rfl
        unfold rK
        refine ⟨_, b1, ?_⟩
        walk_at "ev"
        rw [eq_no b3 b2]
        walk_at "ev"
        refine hdue ?_
        walk_at "ev"
        rw [b4] at hal ⊢
        refine alike_wp 6 hal ?_
        walk_at "ev"
        exact ⟨_, _, _, _, hts, rfl⟩
      | store =>
        obtain ⟨w, v, b1, b2, b3, b4⟩ := bad stE rfl
        unfold rK
        refine ⟨_, b1, ?_⟩
        walk_at "ev"
        rw [eq_no b3 b2]
        walk_at "ev"
        refine hdue ?_
        walk_at "ev"
        rw [b4] at hal ⊢
        refine alike_wp 6 hal ?_
        walk_at "ev"
        exact ⟨_, _, _, _, hts, rfl⟩
      | step m j =>
        obtain ⟨w, v, b1, b2, b3, b4⟩ := bad (bsE m j) rfl
        unfold rK
        refine ⟨_, b1, ?_⟩
        walk_at "ev"
        rw [eq_no b3 b2]
        walk_at "ev"
        refine hdue ?_
        walk_at "ev"
        rw [b4] at hal ⊢
        refine alike_wp 6 hal ?_
        walk_at "ev"
        exact ⟨_, _, _, _, hts, rfl⟩
    · rintro ⟨s11, s12, s13, s14, hts, rfl⟩
      exact ⟨hp, _, _, _, _, _, _, _, _, _, _, _, _, hrg, rfl⟩
  · rintro ⟨hp, s3, s4, s5, s6, s7, s8, s9, s10, s11, s12, s13, s14, hrg, rfl⟩
    walk_at "ev"

theorem law_true (ns : List Int) (hl : ns.length ≤ 63) (LD : Nat → LamD) : ∃ s, mf_law LD [.scr (ns.map .int)] [] = .ok (.val (.bl true)) s := by
  have h := law_wp ns hl LD
  unfold wpc at h
  split at h
  · rename_i t s e
    rw [e, h]
    exact ⟨s, rfl⟩
  · exact h.elim

end
end Wk
set_option maxHeartbeats 0


namespace Wk
open PySem PySem.Spec PyProof.Rows L2 Sm Lk
def dd__law_alike : He.DefD := ⟨("_law_alike", none), "_law_alike", "_law_alike", defArgs st__law_alike, defBody st__law_alike, defScope st__law_alike, [], []⟩
def dd__law_numbers : He.DefD := ⟨("_law_numbers", none), "_law_numbers", "_law_numbers", defArgs st__law_numbers, defBody st__law_numbers, defScope st__law_numbers, [], []⟩
def dd__law_due : He.DefD := ⟨("_law_due", none), "_law_due", "_law_due", defArgs st__law_due, defBody st__law_due, defScope st__law_due, [], []⟩
def dd__law_kind : He.DefD := ⟨("_law_kind", none), "_law_kind", "_law_kind", defArgs st__law_kind, defBody st__law_kind, defScope st__law_kind, [], []⟩
def dd__law_mix : He.DefD := ⟨("_law_mix", none), "_law_mix", "_law_mix", defArgs st__law_mix, defBody st__law_mix, defScope st__law_mix, [], []⟩
def dd__law_next : He.DefD := ⟨("_law_next", none), "_law_next", "_law_next", defArgs st__law_next, defBody st__law_next, defScope st__law_next, [], []⟩
def dd__law_text : He.DefD := ⟨("_law_text", none), "_law_text", "_law_text", defArgs st__law_text, defBody st__law_text, defScope st__law_text, [], []⟩
def dd__law_world : He.DefD := ⟨("_law_world", none), "_law_world", "_law_world", defArgs st__law_world, defBody st__law_world, defScope st__law_world, [], []⟩
def dd_need_steps : He.DefD := ⟨("need_steps", none), "need_steps", "need_steps", defArgs st_need_steps, defBody st_need_steps, defScope st_need_steps, [], []⟩
def dd_need_store : He.DefD := ⟨("need_store", none), "need_store", "need_store", defArgs st_need_store, defBody st_need_store, defScope st_need_store, [], []⟩
def dd_need_world : He.DefD := ⟨("need_world", none), "need_world", "need_world", defArgs st_need_world, defBody st_need_world, defScope st_need_world, [], []⟩
def dd_is_number : He.DefD := ⟨("is_number", none), "is_number", "is_number", defArgs st_is_number, defBody st_is_number, defScope st_is_number, [], []⟩
def dd_numbers_in : He.DefD := ⟨("numbers_in", none), "numbers_in", "numbers_in", defArgs st_numbers_in, defBody st_numbers_in, defScope st_numbers_in, [], []⟩
def dd_read : He.DefD := ⟨("read", none), "read", "read", defArgs st_read, defBody st_read, defScope st_read, [], []⟩
def dd_law : He.DefD := ⟨("law", none), "law", "law", defArgs st_law, defBody st_law, defScope st_law, [], []⟩
def dd_BadStep___init__ : He.DefD := ⟨("BadStep", some "__init__"), "__init__", "BadStep.__init__", defArgs st_BadStep___init__, defBody st_BadStep___init__, defScope st_BadStep___init__, [], []⟩
def dd_BadText___init__ : He.DefD := ⟨("BadText", some "__init__"), "__init__", "BadText.__init__", defArgs st_BadText___init__, defBody st_BadText___init__, defScope st_BadText___init__, [], []⟩
def fn : List He.DefD := [dd__law_alike, dd__law_numbers, dd__law_due, dd__law_kind, dd__law_mix, dd__law_next, dd__law_text, dd__law_world, dd_need_steps, dd_need_store, dd_need_world, dd_is_number, dd_numbers_in, dd_read, dd_law, dd_BadStep___init__, dd_BadText___init__]
def fa : List He.Fa := [.glo "_law_alike", .glo "_law_numbers", .glo "_law_due", .glo "_law_kind", .glo "_law_mix", .glo "_law_next", .glo "_law_text", .glo "_law_world", .glo "need_steps", .glo "need_store", .glo "need_world", .glo "is_number", .glo "numbers_in", .glo "read", .glo "law", .str "FIGURES" "0123456789", .str "MACHINE" "machine", .int "MOST_CAP" (99), .int "MOST_LONG" (9), .int "MOST_MACHINES" (5), .int "MOST_REFILL" (9), .int "MOST_STEPS" (6), .str "STORE" "store", .free "ValueError", .free "all", .free "bool", .free "enumerate", .free "int", .free "isinstance", .free "len", .free "list", .free "max", .free "min", .free "range", .free "str", .free "tuple"]
def tf : List He.Defn := [("law", none)]
def tfn : List Str := ["law"]
def exB (K : PySem.W.Frag) : Bool := decide ((tbl K).map (·.1)).Nodup && ((lamDefs.all fun x => !lamGd K x || decide (x ∈ tfn)) && (exkB K && (rsB K "BadStore" && (baseIB K "BreathError" && (xkB K "BadStep" ["machine", "step"] && (xkB K "BadText" ["row"]))))))
abbrev R : PySem.W.OpenRow := PySem.W.OpenLaw.row PySem.Challenge.rw_onebreath_k12_texts_of_no_world
abbrev hk : PySem.W.Hook := Lk.hookS 4 fa fn tf exB
def ob (s : PySem.W.SharedT) : He.AlX := Lk.obsS 4 fa fn tf exB (HandSHeadRun.getT s)
theorem ob_eq (s : PySem.W.SharedT) : ob s = hk.obs s.abs := Lk.obsS_eq (HandSHeadRun.getT_eq s)
def loose : List Str := (["BreathError", "BadStore", "BadStep", "BadRule", "BadCount", "BadPlan", "TooMany", "NoMachine", "BadDeed", "BadText", "MOST_CAP", "MOST_REFILL", "MOST_MACHINES", "MOST_STEPS", "MOST_LONG", "need_store", "need_steps", "need_world", "FIGURES", "STORE", "MACHINE", "is_number", "numbers_in", "read", "_law_mix", "_law_next", "_law_alike", "_law_world", "_law_rule", "_law_text"] : List Str) ++ (["_law_kind", "_law_numbers", "_law_due"] : List Str)
theorem run (w : World) : HandSHeadRun.RunEq R (PySem.W.view R.prog [37]) hk ob 6000 loose w := by
  intro os
  kernel_rfl
section
variable {K : PySem.W.Frag} {h : Heap} {mg : Str → Option Value} {w : World}
theorem exs (c : He.SaysX fa fn [] tf exB w h K) : (decide ((tbl K).map (·.1)).Nodup) = true ∧ ((lamDefs.all fun x => !lamGd K x || decide (x ∈ tfn))) = true ∧ (exkB K) = true ∧ (rsB K "BadStore") = true ∧ (baseIB K "BreathError") = true ∧ (xkB K "BadStep" ["machine", "step"]) = true ∧ (xkB K "BadText" ["row"]) = true := by
  have h := c.more
  unfold exB at h
  simp only [Bool.and_eq_true] at h
  exact h
theorem facts (X : K.In h) (G : h.Ns mainGlobals mg) (c : He.SaysX fa fn [] tf exB w h K) : Facts K mg where
  d__law_alike := by
    obtain ⟨fd, F⟩ := c.t.d.def_ 0 (d := dd__law_alike) rfl
    exact ⟨_, fd, He.glo_ok X G (c.t.d.fact 0 (f := .glo "_law_alike") rfl), F⟩
  d__law_numbers := by
    obtain ⟨fd, F⟩ := c.t.d.def_ 1 (d := dd__law_numbers) rfl
    exact ⟨_, fd, He.glo_ok X G (c.t.d.fact 1 (f := .glo "_law_numbers") rfl), F⟩
  d__law_due := by
    obtain ⟨fd, F⟩ := c.t.d.def_ 2 (d := dd__law_due) rfl
    exact ⟨_, fd, He.glo_ok X G (c.t.d.fact 2 (f := .glo "_law_due") rfl), F⟩
  d__law_kind := by
    obtain ⟨fd, F⟩ := c.t.d.def_ 3 (d := dd__law_kind) rfl
    exact ⟨_, fd, He.glo_ok X G (c.t.d.fact 3 (f := .glo "_law_kind") rfl), F⟩
  d__law_mix := by
    obtain ⟨fd, F⟩ := c.t.d.def_ 4 (d := dd__law_mix) rfl
    exact ⟨_, fd, He.glo_ok X G (c.t.d.fact 4 (f := .glo "_law_mix") rfl), F⟩
  d__law_next := by
    obtain ⟨fd, F⟩ := c.t.d.def_ 5 (d := dd__law_next) rfl
    exact ⟨_, fd, He.glo_ok X G (c.t.d.fact 5 (f := .glo "_law_next") rfl), F⟩
  d__law_text := by
    obtain ⟨fd, F⟩ := c.t.d.def_ 6 (d := dd__law_text) rfl
    exact ⟨_, fd, He.glo_ok X G (c.t.d.fact 6 (f := .glo "_law_text") rfl), F⟩
  d__law_world := by
    obtain ⟨fd, F⟩ := c.t.d.def_ 7 (d := dd__law_world) rfl
    exact ⟨_, fd, He.glo_ok X G (c.t.d.fact 7 (f := .glo "_law_world") rfl), F⟩
  d_need_steps := by
    obtain ⟨fd, F⟩ := c.t.d.def_ 8 (d := dd_need_steps) rfl
    exact ⟨_, fd, He.glo_ok X G (c.t.d.fact 8 (f := .glo "need_steps") rfl), F⟩
  d_need_store := by
    obtain ⟨fd, F⟩ := c.t.d.def_ 9 (d := dd_need_store) rfl
    exact ⟨_, fd, He.glo_ok X G (c.t.d.fact 9 (f := .glo "need_store") rfl), F⟩
  d_need_world := by
    obtain ⟨fd, F⟩ := c.t.d.def_ 10 (d := dd_need_world) rfl
    exact ⟨_, fd, He.glo_ok X G (c.t.d.fact 10 (f := .glo "need_world") rfl), F⟩
  d_is_number := by
    obtain ⟨fd, F⟩ := c.t.d.def_ 11 (d := dd_is_number) rfl
    exact ⟨_, fd, He.glo_ok X G (c.t.d.fact 11 (f := .glo "is_number") rfl), F⟩
  d_numbers_in := by
    obtain ⟨fd, F⟩ := c.t.d.def_ 12 (d := dd_numbers_in) rfl
    exact ⟨_, fd, He.glo_ok X G (c.t.d.fact 12 (f := .glo "numbers_in") rfl), F⟩
  d_read := by
    obtain ⟨fd, F⟩ := c.t.d.def_ 13 (d := dd_read) rfl
    exact ⟨_, fd, He.glo_ok X G (c.t.d.fact 13 (f := .glo "read") rfl), F⟩
  d_law := by
    obtain ⟨fd, F⟩ := c.t.d.def_ 14 (d := dd_law) rfl
    exact ⟨fd, He.glo_ok X G (c.t.d.fact 14 (f := .glo "law") rfl), F⟩
  g_law := c.hd ("law", none) (by decide)
  tu := of_decide_eq_true (exs c).1
  kx := exkB_ok X G ((exs c).2.2.1)
  r_BadStore := rsB_ok X G ((exs c).2.2.2.1)
  xb := baseIB_ok X G ((exs c).2.2.2.2.1)
  xf_BadStep := by
    obtain ⟨fd, F⟩ := c.t.d.def_ 15 (d := dd_BadStep___init__) rfl
    exact ⟨xkB_ok X G ((exs c).2.2.2.2.2.1), fd, F⟩
  xf_BadText := by
    obtain ⟨fd, F⟩ := c.t.d.def_ 16 (d := dd_BadText___init__) rfl
    exact ⟨xkB_ok X G ((exs c).2.2.2.2.2.2), fd, F⟩
  c_FIGURES := He.str_ok X G (c.t.d.fact 15 (f := .str "FIGURES" "0123456789") rfl)
  c_MACHINE := He.str_ok X G (c.t.d.fact 16 (f := .str "MACHINE" "machine") rfl)
  c_MOST_CAP := He.int_ok X G (c.t.d.fact 17 (f := .int "MOST_CAP" (99)) rfl)
  c_MOST_LONG := He.int_ok X G (c.t.d.fact 18 (f := .int "MOST_LONG" (9)) rfl)
  c_MOST_MACHINES := He.int_ok X G (c.t.d.fact 19 (f := .int "MOST_MACHINES" (5)) rfl)
  c_MOST_REFILL := He.int_ok X G (c.t.d.fact 20 (f := .int "MOST_REFILL" (9)) rfl)
  c_MOST_STEPS := He.int_ok X G (c.t.d.fact 21 (f := .int "MOST_STEPS" (6)) rfl)
  c_STORE := He.str_ok X G (c.t.d.fact 22 (f := .str "STORE" "store") rfl)
  m_ValueError := He.free_ok X G (c.t.d.fact 23 (f := .free "ValueError") rfl)
  m_all := He.free_ok X G (c.t.d.fact 24 (f := .free "all") rfl)
  m_bool := He.free_ok X G (c.t.d.fact 25 (f := .free "bool") rfl)
  m_enumerate := He.free_ok X G (c.t.d.fact 26 (f := .free "enumerate") rfl)
  m_int := He.free_ok X G (c.t.d.fact 27 (f := .free "int") rfl)
  m_isinstance := He.free_ok X G (c.t.d.fact 28 (f := .free "isinstance") rfl)
  m_len := He.free_ok X G (c.t.d.fact 29 (f := .free "len") rfl)
  m_list := He.free_ok X G (c.t.d.fact 30 (f := .free "list") rfl)
  m_max := He.free_ok X G (c.t.d.fact 31 (f := .free "max") rfl)
  m_min := He.free_ok X G (c.t.d.fact 32 (f := .free "min") rfl)
  m_range := He.free_ok X G (c.t.d.fact 33 (f := .free "range") rfl)
  m_str := He.free_ok X G (c.t.d.fact 34 (f := .free "str") rfl)
  m_tuple := He.free_ok X G (c.t.d.fact 35 (f := .free "tuple") rfl)
def css (K : PySem.W.Frag) : List (Addr × Addr) := tf.map (He.cT K)
theorem tf_in {x : Str} (c : He.SaysX fa fn [] tf exB w h K) (hx : x ∈ lamDefs) (hg : lamGd K x = true) : He.cT K (x, none) ∈ css K := by
  have h1 := List.all_eq_true.mp (exs c).2.1 x hx
  rw [hg] at h1
  have h2 : x ∈ tfn := by simpa using h1
  have h3 : (x, (none : Option Str)) ∈ tf := by
    have : tf = tfn.map fun x => (x, none) := rfl
    rw [this]
    exact List.mem_map.mpr ⟨x, h2, rfl⟩
  exact List.mem_map.mpr ⟨_, h3, rfl⟩
theorem tabs0 (c : He.SaysX fa fn [] tf exB w h K) {H : Hp} (hH : ∀ p ∈ css K, H p.2 = some (.tbl #[])) : LamX.Tabs (tbl K) H := fun p hp => by
  obtain ⟨x, hx, rfl⟩ := List.mem_map.mp hp
  obtain ⟨h1, h2⟩ := List.mem_filter.mp hx
  exact LamX.TabS.nil (hH _ (tf_in c h1 h2))
theorem tbs (c : He.SaysX fa fn [] tf exB w h K) {base : Heap} (hB : ∀ p ∈ css K, LamX.TabB base mg p.1 p.2) : TBs K mg base := fun x hx hg => hB _ (tf_in c hx hg)
end
end Wk
open PySem PySem.W PySem.Calls PyProof.Rows
theorem PySem.Challenge.cw_onebreath_k12_texts_of_no_world_holds : PySem.Challenge.rw_onebreath_k12_texts_of_no_world.Holds := by
  w_on; o_law
  refine HandSHeadRun.head_any (r := OpenLaw.row PySem.Challenge.rw_onebreath_k12_texts_of_no_world) (q := view (OpenLaw.row PySem.Challenge.rw_onebreath_k12_texts_of_no_world).prog [37]) (H := Wk.hk) (ob := Wk.ob) (M := 6000) (loose := Wk.loose) (d := HandSHeadRun.topDef (OpenLaw.row PySem.Challenge.rw_onebreath_k12_texts_of_no_world).prog 37) (kwd := []) Wk.ob_eq
    (by kernel_rfl) (fun s => by kernel_rfl) Wk.run (by kernel_rfl) (by kernel_rfl) (by kernel_rfl) (by rfl) (by first | assumption | decide +kernel) (by decide +kernel) ⟨rfl, rfl, rfl, rfl, rfl, by decide +kernel⟩ ?hw ?hc
  case hw => w_witness2
  case hc =>
    refine LamX.walk_ofTsE (l := PySem.Challenge.rw_onebreath_k12_texts_of_no_world) (n := 63) (k := 11) (x := "_law_script") (CX := L2.CX (PySem.Challenge.rw_onebreath_k12_texts_of_no_world).prog) rfl (by decide) (by kernel_rfl) ⟨rfl, by decide, by decide⟩ ?F (fun _ _ _ _ _ z => Sm.no_exc z)
    intro w mg fa h Y G hmg0
    obtain ⟨K, KX, c⟩ := Y
    have hmg : mg ("law" : PySem.Str) = some (.ref fa) := by
      have e : (HandSHeadRun.topDef (OpenLaw.row PySem.Challenge.rw_onebreath_k12_texts_of_no_world).prog 37).name = ("law" : PySem.Str) := by kernel_rfl
      rw [← e]
      exact hmg0
    have T := Wk.facts KX G c
    obtain ⟨fd, hm, F⟩ := T.d_law
    have e := hmg.symm.trans hm
    cases e
    have b := L2.FunD.bindsA (ps := ["_law_script"]) F fun _ _ _ _ _ _ us hl => match us, hl with | [_], _ => rfl
    exact ⟨K, KX, fd, Wk.css K, Lk.spMA K mg 1 Wk.mf_law, fun p hp => by obtain ⟨q, hq, rfl⟩ := List.mem_map.mp hp; exact c.empty q hq, fun p hp => by obtain ⟨q, hq, rfl⟩ := List.mem_map.mp hp; exact c.out q hq,
      fun p hp => by obtain ⟨q, hq, rfl⟩ := List.mem_map.mp hp; exact PySem.W.codeHd_of_K KX (c.hd q hq), fun s v => b s [v] rfl, fun H a ns hl _ hH hS => Lk.law_spA (Wk.tabs0 c hH) hS (Wk.law_true ns hl), fun base _ _ hB => Wk.ok_law T (Wk.tbs c hB) F⟩


