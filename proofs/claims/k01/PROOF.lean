import PyProof.Rows.All
import Wide.All
import OpenK.AllK
import Wide.FinOn
import PyProof.EqAt
import PyProof.EqKinds
import PyProof.TupleCall
import Open.SpecLaws
import HandS.ForMost
import HandS.ForExc
import HandS.TryMany
import HandS.Lambda
import HandS.Zip
import HandS.Conv
import KE.KDictKeyed
import KE.KDictPairs
import KE.KDictCopyH
import KE.KDictDisplayH
import HandS.TupAny
import HandS.TupMul
import HandS.TupLe
import HandS.Deep
import HandS.IsInst
import HandS.Flow
import HandS.Wide
import HandS.Strs
import HandS.Text
import KE.GoesZip
import KE.GoesMore
import HandS.RaiseMore
import HandS.MapJoin
import HandS.More
import HandS.Ends
import HandS.EndTab
import KE.KDictZip
import PyProof.ListRange
import HandS.ListItems
import HandS.SetTxt0
import HandS.Set
import PyProof.Rows.SortStr
import PyProof.WalksMore
import PyProof.Rows.SetFrom
import PySem.Challenge.RW_stoneroads_k01_roads_and_cells_known
set_option Elab.async false
set_option linter.all false
set_option maxRecDepth 100000
set_option maxHeartbeats 4000000
/-! Mir1: data, stores, what they are in a heap; outcomes; how outcomes are put together. -/
namespace Mir
open PySem PySem.Spec PyProof.Rows L2

abbrev St := L2.St
/-- data without any object that is changed -/
inductive D where
  | non | bl (b : Bool) | int (i : Int) | str (x : Str) | tup (xs : List D) | lst (xs : List D) | dic (t : Bool) (ks : List NestedKey) (vs : List D) | scr (ns : List Int)
  deriving Inhabited
/-- what a name holds: data, or a reference to a cell of the store -/
inductive U where
  | d (x : D) | c (i : Nat) | t (us : List (D ⊕ Nat))
  deriving Inhabited
/-- an object that may be changed -/
inductive Cell where
  | lst (xs : List D)
  | dic (t : Bool) (ks : List NestedKey) (vs : List D)
  | ins (C : Str) (fs : List (Str × D))
  deriving Inhabited
abbrev Sto := List Cell
abbrev Env := List (Option U)
/-- an exception: its class, its attributes -/
structure Exn where
  cls : Str
  fs : Option (List (Str × D)) := none
inductive O (α : Type) where
  | ok (a : α) (S : Sto) | ex (e : Exn) (S : Sto) | un

namespace O
@[simp] def bind {α β : Type} (o : O α) (f : α → Sto → O β) : O β := match o with
  | .ok a S => f a S | .ex e S => .ex e S | .un => .un
end O
abbrev ME := Env → Sto → O U
abbrev MT := Env → Sto → O Bool
abbrev MA := Env → Sto → O (List U)
/-- outcomes of statements -/
inductive SO where
  | nx (ρ : Env) (S : Sto) | rt (u : U) (S : Sto) | bk (ρ : Env) (S : Sto) | ct (ρ : Env) (S : Sto) | ex (e : Exn) (ρ : Env) (S : Sto) | un
abbrev MS := Env → Sto → SO

/-- what stays the same through a law -/
structure Gc where
  P : Program
  w : World
  K : PySem.W.Frag
  mg : Str → Option Value
  T : List (Addr × Str)

/-! ### data in a heap; e: the cells' addresses -/
def kN : Key → NestedKey
  | .inl i => .num i
  | .inr x => .text x
mutual
/-- a value as a key -/
inductive RN (G : Gc) (H : Hp) : NestedKey → V → Prop
  | none : RN G H .none .non
  | bl (b : Bool) : RN G H (.num (if b = true then 1 else 0)) (.bl b)
  | num (i : Int) : RN G H (.num i) (.int i)
  | text (x : Str) : RN G H (.text x) (.str x)
  | tup {a : Addr} {xs : List V} {ks : List NestedKey} : SqT G.K H a xs → RNs G H ks xs → RN G H (.tup ks) (.ref a)
inductive RNs (G : Gc) (H : Hp) : List NestedKey → List V → Prop
  | nil : RNs G H [] []
  | cons {k : NestedKey} {v : V} {ks : List NestedKey} {vs : List V} : RN G H k v → RNs G H ks vs → RNs G H (k :: ks) (v :: vs)
end
/-- a dict whose keys are tuples: its keys, where they stand, its values -/
def dicN (P : Program) (w : World) (a : Addr) (xs : List (NestedKey × Addr × V)) : HO := .ext fun h => xs.length ≤ sizeLine ∧ (a == sysModules) = false ∧ ∃ us : List (NestedKey × Addr × Value),
  Paired (fun (p : NestedKey × Addr × V) (q : NestedKey × Addr × Value) => p.1 = q.1 ∧ p.2.1 = q.2.1 ∧ RelV p.2.2 q.2.2) xs us ∧
    ∃ o es ep, h.get? a = some o ∧ o.ExactDict ∧ o.data = .dict es ep ∧ es.toList = us.map (entryOfKey (nestedKind P w)) ∧ (us.map (·.1)).Nodup
/-- a dict: its keys, its values -/
inductive RD (G : Gc) (H : Hp) (a : Addr) : Bool → List NestedKey → List V → HO → Prop
  | k (ks : List Key) (xs : List V) : ks.length = xs.length → RD G H a false (ks.map kN) xs (.dK (ks.zip xs))
  | n (ts : List (NestedKey × Addr × V)) : (∀ t ∈ ts, RN G H t.1 (.ref t.2.1) ∧ t.1.depth ≤ 8) → RD G H a true (ts.map (·.1)) (ts.map (·.2.2)) (dicN G.P G.w a ts)
/-- the script: a list that nobody changes -/
def Sc (K : PySem.W.Frag) (H : Hp) (a : Addr) (ns : List Int) : Prop :=
  (∃ o, H a = some (.frz o (.lst (ns.map V.int)))) ∨
    ∃ (o : Obj) (its : Array Value) (n : Nat), K.lookup a = some o ∧ o.cls = .type "list" ∧ o.dict = none ∧ o.data = .seq its n ∧ its.size ≤ sizeLine ∧ Vals (ns.map V.int) its.toList
theorem Sc.sq {K : PySem.W.Frag} {H : Hp} {a : Addr} {ns : List Int} (h : Sc K H a ns) : SqL K H a (ns.map V.int) := by
  rcases h with h | h
  · exact .inl (.inr h)
  · exact .inr h
mutual
inductive RV (G : Gc) (e : List Addr) (H : Hp) : D → V → Prop
  | non : RV G e H .non .non
  | bl (b : Bool) : RV G e H (.bl b) (.bl b)
  | int (i : Int) : RV G e H (.int i) (.int i)
  | str (x : Str) : RV G e H (.str x) (.str x)
  | tup {a : Addr} {xs : List V} {ds : List D} : SqT G.K H a xs → RVs G e H ds xs → RV G e H (.tup ds) (.ref a)
  | lst {a : Addr} {xs : List V} {ds : List D} : H a = some (.lst xs) → a ∉ e → RVs G e H ds xs → RV G e H (.lst ds) (.ref a)
  | scr {a : Addr} {ns : List Int} : Sc G.K H a ns → RV G e H (.scr ns) (.ref a)
  | dic {a : Addr} {o : HO} {t : Bool} {ks : List NestedKey} {xs : List V} {ds : List D} : H a = some o → a ∉ e → RD G H a t ks xs o → RVs G e H ds xs → RV G e H (.dic t ks ds) (.ref a)
inductive RVs (G : Gc) (e : List Addr) (H : Hp) : List D → List V → Prop
  | nil : RVs G e H [] []
  | cons {d : D} {v : V} {ds : List D} {vs : List V} : RV G e H d v → RVs G e H ds vs → RVs G e H (d :: ds) (v :: vs)
end
/-- the same, the outermost object may be a cell -/
inductive RT (G : Gc) (e : List Addr) (H : Hp) : D → V → Prop
  | of {d : D} {v : V} : RV G e H d v → RT G e H d v
  | lst {a : Addr} {xs : List V} {ds : List D} : H a = some (.lst xs) → RVs G e H ds xs → RT G e H (.lst ds) (.ref a)
  | dic {a : Addr} {o : HO} {t : Bool} {ks : List NestedKey} {xs : List V} {ds : List D} : H a = some o → RD G H a t ks xs o → RVs G e H ds xs → RT G e H (.dic t ks ds) (.ref a)
/-- the items of a tuple that is handed back: data, cells -/
inductive RW (G : Gc) (e m : List Addr) (H : Hp) : List (D ⊕ Nat) → List V → Prop
  | nil : RW G e m H [] []
  | d {x : D} {v : V} {ds : List (D ⊕ Nat)} {vs : List V} : RV G e H x v → RW G e m H ds vs → RW G e m H (.inl x :: ds) (v :: vs)
  | c {i : Nat} {a : Addr} {ds : List (D ⊕ Nat)} {vs : List V} : m[i]? = some a → RW G e m H ds vs → RW G e m H (.inr i :: ds) (.ref a :: vs)
/-- what a name holds -/
inductive RU (G : Gc) (e m : List Addr) (H : Hp) : U → V → Prop
  | d {x : D} {v : V} : RV G e H x v → RU G e m H (.d x) v
  | c {i : Nat} {a : Addr} : m[i]? = some a → RU G e m H (.c i) (.ref a)
  | t {a : Addr} {us : List (D ⊕ Nat)} {xs : List V} : SqT G.K H a xs → RW G e m H us xs → RU G e m H (.t us) (.ref a)
inductive RUs (G : Gc) (e m : List Addr) (H : Hp) : List U → List V → Prop
  | nil : RUs G e m H [] []
  | cons {d : U} {v : V} {ds : List U} {vs : List V} : RU G e m H d v → RUs G e m H ds vs → RUs G e m H (d :: ds) (v :: vs)
/-- the fields of an instance -/
inductive RF (G : Gc) (e : List Addr) (H : Hp) : List (Str × D) → List (Str × V) → Prop
  | nil : RF G e H [] []
  | cons {f : Str} {d : D} {v : V} {ds : List (Str × D)} {vs : List (Str × V)} : RV G e H d v → RF G e H ds vs → RF G e H ((f, d) :: ds) ((f, v) :: vs)
inductive RC (G : Gc) (e : List Addr) (H : Hp) (a : Addr) : Cell → HO → Prop
  | lst {xs : List V} {ds : List D} : RVs G e H ds xs → RC G e H a (.lst ds) (.lst xs)
  | dic {o : HO} {t : Bool} {ks : List NestedKey} {xs : List V} {ds : List D} : RD G H a t ks xs o → RVs G e H ds xs → RC G e H a (.dic t ks ds) o
  | ins {x : Str} {C dx : Addr} {fs : List (Str × D)} {gs : List (Str × V)} : G.mg x = some (.ref C) → H dx = some (.own a) → RF G e H fs gs → RC G e H a (.ins x fs) (.ins C dx gs)
/-- a store in a heap -/
structure RS (G : Gc) (e m : List Addr) (H : Hp) (S : Sto) : Prop where
  len : m.length = S.length
  nd : m.Nodup
  ins : ∀ b ∈ m, b ∈ e
  at' : ∀ (i : Nat) (a : Addr) (c : Cell), m[i]? = some a → S[i]? = some c → ∃ o, H a = some o ∧ RC G e H a c o
inductive RE (G : Gc) (e m : List Addr) (H : Hp) : Env → St → Prop
  | nil : RE G e m H [] []
  | em {o : Option V} {ρ : Env} {σ : St} : RE G e m H ρ σ → RE G e m H (none :: ρ) (o :: σ)
  | cns {u : U} {v : V} {ρ : Env} {σ : St} : RU G e m H u v → RE G e m H ρ σ → RE G e m H (some u :: ρ) (some v :: σ)
/-- there is an object that is no table of code objects -/
def Nt (H : Hp) (b : Addr) : Prop := ∃ o, H b = some o ∧ ∀ ps, o ≠ .tbl ps
structure Rp (G : Gc) (x m : List Addr) (H : Hp) (ρ : Env) (S : Sto) (σ : St) : Prop where
  env : RE G (x ++ m) m H ρ σ
  sto : RS G (x ++ m) m H S
  ex : ∀ b ∈ x, Nt H b
  tab : LamX.Tabs G.T H

/-- from one heap to another: but for the cells all stays -/
structure Ext (G : Gc) (m : List Addr) (H : Hp) (m' : List Addr) (H' : Hp) : Prop where
  keep : ∀ b o, H b = some o → b ∉ m → (∀ ps, o ≠ .tbl ps) → H' b = some o
  tups : ∀ b xs, H b = some (.tup xs) → H' b = some (.tup xs)
  frzs : ∀ b o u, H b = some (.frz o u) → H' b = some (.frz o u)
  owns : ∀ b a, H b = some (.own a) → H' b = some (.own a)
  live : ∀ b, Nt H b → Nt H' b
  pre : ∃ new, m' = m ++ new ∧ ∀ b ∈ new, ¬ Nt H b
  tab : LamX.Tabs G.T H → LamX.Tabs G.T H'

theorem Ext.refl {G : Gc} {m : List Addr} {H : Hp} : Ext G m H m H :=
  ⟨fun _ _ h _ _ => h, fun _ _ h => h, fun _ _ _ h => h, fun _ _ h => h, fun _ h => h, ⟨[], by simp, fun _ h => by cases h⟩, fun h => h⟩
theorem Ext.trans {G : Gc} {m m1 m2 : List Addr} {H H1 H2 : Hp} (a : Ext G m H m1 H1) (b : Ext G m1 H1 m2 H2) : Ext G m H m2 H2 := by
  obtain ⟨n1, e1, f1⟩ := a.pre
  obtain ⟨n2, e2, f2⟩ := b.pre
  refine ⟨fun c o h hc ht => b.keep c o (a.keep c o h hc ht) ?_ ht, fun c xs h => b.tups c xs (a.tups c xs h), fun c o u h => b.frzs c o u (a.frzs c o u h), fun c x h => b.owns c x (a.owns c x h), fun c h => b.live c (a.live c h), ⟨n1 ++ n2, by rw [e2, e1, List.append_assoc], fun c hc => ?_⟩, fun h => b.tab (a.tab h)⟩
  · rw [e1]
    intro hm
    rcases List.mem_append.mp hm with hm | hm
    · exact hc hm
    · exact f1 c hm ⟨o, h, ht⟩
  · rcases List.mem_append.mp hc with hc | hc
    · exact f1 c hc
    · exact fun q => f2 c hc (a.live c q)

/-! ### what stays -/
section
variable {G : Gc} {e e' x m m' : List Addr} {H H' : Hp}
/-- data stay where all that is no cell stays -/
structure Keep (G : Gc) (e : List Addr) (H : Hp) (e' : List Addr) (H' : Hp) : Prop where
  tup : ∀ a xs, SqT G.K H a xs → SqT G.K H' a xs
  lst : ∀ a ns, Sc G.K H a ns → Sc G.K H' a ns
  lsk : ∀ a xs, H a = some (.lst xs) → a ∉ e → H' a = some (.lst xs) ∧ a ∉ e'
  dic : ∀ a o t ks xs, H a = some o → a ∉ e → RD G H a t ks xs o → H' a = some o ∧ a ∉ e' ∧ RD G H' a t ks xs o
mutual
theorem RN.ext (k : ∀ a xs, SqT G.K H a xs → SqT G.K H' a xs) : ∀ {d : NestedKey} {v : V}, RN G H d v → RN G H' d v
  | _, _, .none => .none
  | _, _, .bl b => .bl b
  | _, _, .num i => .num i
  | _, _, .text x => .text x
  | _, _, .tup h r => .tup (k _ _ h) (RNs.ext k r)
theorem RNs.ext (k : ∀ a xs, SqT G.K H a xs → SqT G.K H' a xs) : ∀ {ds : List NestedKey} {vs : List V}, RNs G H ds vs → RNs G H' ds vs
  | _, _, .nil => .nil
  | _, _, .cons r t => .cons (RN.ext k r) (RNs.ext k t)
end
theorem RD.ext (k : ∀ a xs, SqT G.K H a xs → SqT G.K H' a xs) {a : Addr} {t : Bool} {ks : List NestedKey} {xs : List V} {o : HO} (r : RD G H a t ks xs o) : RD G H' a t ks xs o := by
  cases r with
  | k kk xs h => exact .k kk xs h
  | n ts h => exact .n ts fun t ht => ⟨(h t ht).1.ext k, (h t ht).2⟩
mutual
theorem RV.keep (k : Keep G e H e' H') : ∀ {d : D} {v : V}, RV G e H d v → RV G e' H' d v
  | _, _, .non => .non
  | _, _, .bl b => .bl b
  | _, _, .int i => .int i
  | _, _, .str x => .str x
  | _, _, .tup h r => .tup (k.tup _ _ h) (RVs.keep k r)
  | _, _, .lst h n r => .lst (k.lsk _ _ h n).1 (k.lsk _ _ h n).2 (RVs.keep k r)
  | _, _, .scr h => .scr (k.lst _ _ h)
  | _, _, .dic h n rd r => .dic (k.dic _ _ _ _ _ h n rd).1 (k.dic _ _ _ _ _ h n rd).2.1 (k.dic _ _ _ _ _ h n rd).2.2 (RVs.keep k r)
theorem RVs.keep (k : Keep G e H e' H') : ∀ {ds : List D} {vs : List V}, RVs G e H ds vs → RVs G e' H' ds vs
  | _, _, .nil => .nil
  | _, _, .cons r t => .cons (RV.keep k r) (RVs.keep k t)
end
theorem Rd.ext {a : Addr} {u : HO} (E : Ext G m H m' H') (h : Rd H a u) (hm : a ∉ m) (ht : ∀ ps, u ≠ .tbl ps) : Rd H' a u := by
  rcases h with h | ⟨o, h⟩
  · exact .inl (E.keep _ _ h hm ht)
  · exact .inr ⟨o, E.frzs _ _ _ h⟩
theorem rd_some {a : Addr} {u : HO} (h : Rd H a u) : ∃ o, H a = some o := by
  rcases h with h | ⟨o, h⟩ <;> exact ⟨_, h⟩
theorem RD.notbl {a : Addr} {t : Bool} {ks : List NestedKey} {xs : List V} {o : HO} (h : RD G H a t ks xs o) : ∀ ps, o ≠ .tbl ps := by
  cases h <;> intro ps q <;> cases q
theorem SqT.ext {a : Addr} {xs : List V} (E : Ext G m H m' H') (h : SqT G.K H a xs) : SqT G.K H' a xs := by
  rcases h with (h | ⟨o, h⟩) | h
  · exact .inl (.inl (E.tups _ _ h))
  · exact .inl (.inr ⟨o, E.frzs _ _ _ h⟩)
  · exact .inr h
theorem Ext.notin {a : Addr} {o : HO} (E : Ext G m H m' H') (h : H a = some o) (ht : ∀ ps, o ≠ .tbl ps) (hm : a ∉ x ++ m) : a ∉ x ++ m' := by
  obtain ⟨n, e1, f⟩ := E.pre
  rw [e1]
  intro q
  rcases List.mem_append.mp q with q | q
  · exact hm (List.mem_append_left _ q)
  · rcases List.mem_append.mp q with q | q
    · exact hm (List.mem_append_right _ q)
    · exact f a q ⟨o, h, ht⟩
theorem Sc.ext {a : Addr} {ns : List Int} (E : Ext G m H m' H') (h : Sc G.K H a ns) : Sc G.K H' a ns := by
  rcases h with ⟨o, h⟩ | h
  · exact .inl ⟨o, E.frzs _ _ _ h⟩
  · exact .inr h
theorem Ext.kp (E : Ext G m H m' H') : Keep G (x ++ m) H (x ++ m') H' where
  tup := fun a xs h => SqT.ext E h
  lst := fun a ns h => Sc.ext E h
  lsk := fun a xs h n => ⟨E.keep _ _ h (fun z => n (List.mem_append_right _ z)) (fun ps z => by cases z), E.notin h (fun ps z => by cases z) n⟩
  dic := fun a o t ks xs h n r => by
    exact ⟨E.keep _ _ h (fun z => n (List.mem_append_right _ z)) r.notbl, E.notin h r.notbl n, r.ext fun a xs h => SqT.ext E h⟩
theorem RW.ext (E : Ext G m H m' H') : ∀ {us : List (D ⊕ Nat)} {vs : List V}, RW G (x ++ m) m H us vs → RW G (x ++ m') m' H' us vs
  | _, _, .nil => .nil
  | _, _, .d r t => .d (r.keep E.kp) (RW.ext E t)
  | _, _, .c h t => by
    obtain ⟨n, e1, f⟩ := E.pre
    exact .c (by rw [e1, List.getElem?_append_left (List.getElem?_eq_some_iff.mp h).1]; exact h) (RW.ext E t)
theorem RU.ext (E : Ext G m H m' H') {u : U} {v : V} (r : RU G (x ++ m) m H u v) : RU G (x ++ m') m' H' u v := by
  cases r with
  | d r => exact .d (r.keep E.kp)
  | c h =>
    obtain ⟨n, e1, f⟩ := E.pre
    exact .c (by rw [e1, List.getElem?_append_left (List.getElem?_eq_some_iff.mp h).1]; exact h)
  | t h r => exact .t (E.kp.tup (e := x ++ m) (e' := x ++ m') _ _ h) (r.ext E)
theorem RUs.ext (E : Ext G m H m' H') : ∀ {us : List U} {vs : List V}, RUs G (x ++ m) m H us vs → RUs G (x ++ m') m' H' us vs
  | _, _, .nil => .nil
  | _, _, .cons r t => .cons (RU.ext E r) (RUs.ext E t)
theorem RE.ext (E : Ext G m H m' H') : ∀ {ρ : Env} {σ : St}, RE G (x ++ m) m H ρ σ → RE G (x ++ m') m' H' ρ σ
  | _, _, .nil => .nil
  | _, _, .em t => .em (RE.ext E t)
  | _, _, .cns r t => .cns (RU.ext E r) (RE.ext E t)
theorem Rp.ext {ρ : Env} {S S' : Sto} {σ : St} (p : Rp G x m H ρ S σ) (E : Ext G m H m' H') (r : RS G (x ++ m') m' H' S') : Rp G x m' H' ρ S' σ :=
  ⟨p.env.ext E, r, fun b hb => E.live b (p.ex b hb), E.tab p.tab⟩
end

/-! ### what is wanted behind an outcome -/
section
variable {G : Gc} {W : WX} {x m m1 : List Addr} {σ : St} {H H1 : Hp}
/-- an exception: its class, its attributes -/
def RX (G : Gc) (e : List Addr) (H : Hp) (ex : Exn) (cls : Value) (d : Option Addr) : Prop :=
  ∃ C, cls = .ref C ∧ G.mg ex.cls = some (.ref C) ∧ match ex.fs with
    | none => True
    | some fs => ∃ a gs, d = some a ∧ H a = some (.xd gs) ∧ RF G e H fs gs
def Post {α : Type} (G : Gc) (W : WX) (x m : List Addr) (σ : St) (H : Hp) (o : O α) (Q : α → Sto → List Addr → Hp → Prop) : Prop := match o with
  | .ok a S' => ∀ m' H', Ext G m H m' H' → RS G (x ++ m') m' H' S' → Q a S' m' H'
  | .ex e S' => ∀ m' H' cls d, Ext G m H m' H' → RS G (x ++ m') m' H' S' → RX G (x ++ m') H' e cls d → W cls d σ H'
  | .un => False
theorem Post.shift {α : Type} {o : O α} {Q : α → Sto → List Addr → Hp → Prop} (E : Ext G m H m1 H1) (h : Post G W x m σ H o Q) : Post G W x m1 σ H1 o Q := by
  cases o with
  | ok a S => exact fun m' H' e r => h m' H' (E.trans e) r
  | ex e S => exact fun m' H' cls d e r rx => h m' H' cls d (E.trans e) r rx
  | un => exact h
theorem Post.bind {α β : Type} {o : O α} {f : α → Sto → O β} {Q : β → Sto → List Addr → Hp → Prop} (h : Post G W x m σ H (o.bind f) Q) :
    Post G W x m σ H o fun a S1 m1 H1 => Ext G m H m1 H1 ∧ RS G (x ++ m1) m1 H1 S1 ∧ Post G W x m1 σ H1 (f a S1) Q := by
  cases o with
  | ok a S => exact fun m' H' e r => ⟨e, r, Post.shift e h⟩
  | ex e S => exact h
  | un => exact h
theorem Post.mono {α : Type} {o : O α} {Q Q' : α → Sto → List Addr → Hp → Prop} (h : Post G W x m σ H o Q) (q : ∀ a S m' H', Ext G m H m' H' → RS G (x ++ m') m' H' S → Q a S m' H' → Q' a S m' H') : Post G W x m σ H o Q' := by
  cases o with
  | ok a S => exact fun m' H' e r => q _ _ _ _ e r (h m' H' e r)
  | ex e S => exact h
  | un => exact h
end
/-- the readings -/
def tE (G : Gc) (W : WX) (f : ME) : TE := fun σ H Q => ∃ x m ρ S, Rp G x m H ρ S σ ∧ Post G W x m σ H (f ρ S) fun u _ m' H' => ∀ v, RU G (x ++ m') m' H' u v → Q v H'
def tT (G : Gc) (W : WX) (f : MT) : TT := fun σ H Q => ∃ x m ρ S, Rp G x m H ρ S σ ∧ Post G W x m σ H (f ρ S) fun b _ _ H' => Q b H'
def tA (G : Gc) (W : WX) (f : MA) : TA := fun σ H Q => ∃ x m ρ S, Rp G x m H ρ S σ ∧ Post G W x m σ H (f ρ S) fun us _ m' H' => ∀ vs, RUs G (x ++ m') m' H' us vs → Q vs H'
/-- behind a statement -/
def PostS (G : Gc) (W : WX) (x m : List Addr) (H : Hp) (o : SO) (Dn : Ends) : Prop := match o with
  | .nx ρ' S' => ∀ m' H' σ', Ext G m H m' H' → Rp G x m' H' ρ' S' σ' → Dn.nx σ' H'
  | .rt u S' => ∀ m' H' v, Ext G m H m' H' → RS G (x ++ m') m' H' S' → RU G (x ++ m') m' H' u v → Dn.rt v H'
  | .bk ρ' S' => ∀ m' H' σ', Ext G m H m' H' → Rp G x m' H' ρ' S' σ' → Dn.bk σ' H'
  | .ct ρ' S' => ∀ m' H' σ', Ext G m H m' H' → Rp G x m' H' ρ' S' σ' → Dn.ct σ' H'
  | .ex e ρ' S' => ∀ m' H' σ' cls d, Ext G m H m' H' → Rp G x m' H' ρ' S' σ' → RX G (x ++ m') H' e cls d → W cls d σ' H'
  | .un => False
def tS (G : Gc) (W : WX) (f : MS) : TS := fun Dn σ H => ∃ x m ρ S, Rp G x m H ρ S σ ∧ PostS G W x m H (f ρ S) Dn
theorem PostS.shift {G : Gc} {W : WX} {x m m1 : List Addr} {H H1 : Hp} {o : SO} {Dn : Ends} (E : Ext G m H m1 H1) (h : PostS G W x m H o Dn) : PostS G W x m1 H1 o Dn := by
  cases o with
  | nx ρ S => exact fun m' H' σ' e p => h m' H' σ' (E.trans e) p
  | rt u S => exact fun m' H' v e p r => h m' H' v (E.trans e) p r
  | bk ρ S => exact fun m' H' σ' e p => h m' H' σ' (E.trans e) p
  | ct ρ S => exact fun m' H' σ' e p => h m' H' σ' (E.trans e) p
  | ex e ρ S => exact fun m' H' σ' cls d E' p r => h m' H' σ' cls d (E.trans E') p r
  | un => exact h

/-! ### a weaker reading -/
theorem pe_mono {X : Cx} {e : Expr} {t t' : TE} (h : PE X e t) (q : ∀ σ H Q, t' σ H Q → t σ H Q) : PE X e t' := ⟨fun pins s σ H Q I w => h.run pins s σ H Q I (q σ H Q w)⟩
theorem pt_mono {X : Cx} {e : Expr} {t t' : TT} (h : PT X e t) (q : ∀ σ H Q, t' σ H Q → t σ H Q) : PT X e t' := ⟨fun pins s σ H Q I w => h.run pins s σ H Q I (q σ H Q w)⟩
theorem pa_mono {X : Cx} {e : List Expr} {t t' : TA} (h : PA X e t) (q : ∀ σ H Q, t' σ H Q → t σ H Q) : PA X e t' := ⟨fun pos pins s σ H Q I w => h.run pos pins s σ H Q I (q σ H Q w)⟩
theorem ps_mono {X : Cx} {e : Stmt} {t t' : TS} (h : PS X e t) (q : ∀ Dn σ H, t' Dn σ H → t Dn σ H) : PS X e t' := ⟨fun pins s σ H Dn I w => h.run pins s σ H Dn I (q Dn σ H w)⟩
theorem pss_mono {X : Cx} {e : List Stmt} {t t' : TS} (h : PSs X e t) (q : ∀ Dn σ H, t' Dn σ H → t Dn σ H) : PSs X e t' := ⟨fun pins s σ H Dn I w => h.run pins s σ H Dn I (q Dn σ H w)⟩
end Mir

/-! Mir2: expressions: names, constants, displays, operators, comparisons, truth. -/
namespace Mir
open PySem PySem.Spec PyProof.Rows L2

abbrev gOf (X : Cx) (T : List (Addr × Str)) : Gc := ⟨X.prog, X.w, X.K, X.mg, T⟩

/-! ### reading cells -/
def rd (S : Sto) : U → Option D
  | .d x => some x
  | .c i => match S[i]? with
    | some (.lst xs) => some (.lst xs)
    | some (.dic t ks vs) => some (.dic t ks vs)
    | _ => none
  | .t _ => none
def rds (S : Sto) : List U → Option (List D)
  | [] => some []
  | u :: us => match rd S u, rds S us with
    | some d, some ds => some (d :: ds)
    | _, _ => none
def pures : List U → Option (List D)
  | [] => some []
  | .d x :: us => match pures us with
    | some ds => some (x :: ds)
    | none => none
  | .c _ :: _ => none
  | .t _ :: _ => none
def purs : U → Option D
  | .d x => some x
  | .c _ => none
  | .t _ => none
inductive RTs (G : Gc) (e : List Addr) (H : Hp) : List D → List V → Prop
  | nil : RTs G e H [] []
  | cons {d : D} {v : V} {ds : List D} {vs : List V} : RT G e H d v → RTs G e H ds vs → RTs G e H (d :: ds) (v :: vs)
section
variable {G : Gc} {e m : List Addr} {H : Hp} {S : Sto}
theorem RU.rt {u : U} {v : V} {d : D} (r : RU G e m H u v) (s : RS G e m H S) (h : rd S u = some d) : RT G e H d v := by
  cases r with
  | d r => simp only [rd, Option.some.injEq] at h; subst h; exact .of r
  | @c i a ha =>
    unfold rd at h
    split at h
    · rename_i x hx
      cases hx
    · rename_i j hx
      cases hx
      split at h
      · rename_i xs hs
        cases h
        obtain ⟨o, h1, h2⟩ := s.at' i a _ ha hs
        cases h2 with
        | lst q => exact .lst h1 q
      · rename_i t ks vs hs
        cases h
        obtain ⟨o, h1, h2⟩ := s.at' i a _ ha hs
        cases h2 with
        | dic q1 q2 => exact .dic h1 q1 q2
      · cases h
    · cases h
  | t _ _ => cases h
theorem RUs.rts (s : RS G e m H S) : ∀ {us : List U} {vs : List V} {ds : List D}, RUs G e m H us vs → rds S us = some ds → RTs G e H ds vs
  | _, _, _, .nil, h => by simp only [rds, Option.some.injEq] at h; subst h; exact .nil
  | _, _, _, .cons r t, h => by
    unfold rds at h
    split at h
    · rename_i d ds h1 h2
      cases h
      exact .cons (r.rt s h1) (RUs.rts s t h2)
    · cases h
theorem RUs.pure : ∀ {us : List U} {vs : List V} {ds : List D}, RUs G e m H us vs → pures us = some ds → RVs G e H ds vs
  | _, _, _, .nil, h => by simp only [pures, Option.some.injEq] at h; subst h; exact .nil
  | _, _, _, .cons (.d r) t, h => by
    unfold pures at h
    split at h
    · rename_i ds h1
      cases h
      exact .cons r (RUs.pure t h1)
    · cases h
  | _, _, _, .cons (.c _) t, h => by simp [pures] at h
  | _, _, _, .cons (.t (us := us) _ _) t, h => by simp [pures] at h
theorem RVs.length : ∀ {ds : List D} {vs : List V}, RVs G e H ds vs → ds.length = vs.length
  | _, _, .nil => rfl
  | _, _, .cons _ t => by simp [RVs.length t]
theorem RUs.length : ∀ {ds : List U} {vs : List V}, RUs G e m H ds vs → ds.length = vs.length
  | _, _, .nil => rfl
  | _, _, .cons _ t => by simp [RUs.length t]
theorem pures_len : ∀ {us : List U} {ds : List D}, pures us = some ds → ds.length = us.length
  | [], _, h => by simp [pures] at h; subst h; rfl
  | .d x :: us, _, h => by
    unfold pures at h
    split at h
    · rename_i ds h1
      cases h
      simp [pures_len h1]
    · cases h
  | .c _ :: us, _, h => by simp [pures] at h
  | .t _ :: us, _, h => by simp [pures] at h
end
section
variable {G : Gc} {e m : List Addr} {H : Hp}
theorem RVs.get : ∀ {ds : List D} {vs : List V} {i : Nat} {d : D}, RVs G e H ds vs → ds[i]? = some d → ∃ v, vs[i]? = some v ∧ RV G e H d v
  | _, _, _, _, .nil, h => by simp at h
  | _, _, 0, _, .cons r _, h => by simp at h; subst h; exact ⟨_, rfl, r⟩
  | _, _, i + 1, _, .cons _ t, h => by
    obtain ⟨v, h1, h2⟩ := RVs.get (i := i) t (by simpa using h)
    exact ⟨v, by simpa using h1, h2⟩
theorem RVs.len : ∀ {ds : List D} {vs : List V}, RVs G e H ds vs → ds.length = vs.length
  | _, _, .nil => rfl
  | _, _, .cons _ t => by simp [RVs.len t]
theorem RVs.append : ∀ {ds : List D} {vs : List V} {ds' : List D} {vs' : List V}, RVs G e H ds vs → RVs G e H ds' vs' → RVs G e H (ds ++ ds') (vs ++ vs')
  | _, _, _, _, .nil, r => r
  | _, _, _, _, .cons r t, q => .cons r (RVs.append t q)
theorem RVs.take : ∀ {ds : List D} {vs : List V} (n : Nat), RVs G e H ds vs → RVs G e H (ds.take n) (vs.take n)
  | _, _, 0, _ => .nil
  | _, _, _ + 1, .nil => .nil
  | _, _, n + 1, .cons r t => .cons r (RVs.take n t)
theorem RVs.drop : ∀ {ds : List D} {vs : List V} (n : Nat), RVs G e H ds vs → RVs G e H (ds.drop n) (vs.drop n)
  | _, _, 0, r => r
  | _, _, _ + 1, .nil => .nil
  | _, _, n + 1, .cons _ t => RVs.drop n t
theorem RVs.flat {ds : List D} {vs : List V} (r : RVs G e H ds vs) : ∀ k : Nat, RVs G e H (List.replicate k ds).flatten (List.replicate k vs).flatten
  | 0 => .nil
  | k + 1 => by
    simp only [List.replicate_succ, List.flatten_cons]
    exact r.append (RVs.flat r k)
theorem RVs.set {d : D} {v : V} (r : RV G e H d v) : ∀ {ds : List D} {vs : List V} (i : Nat), RVs G e H ds vs → RVs G e H (ds.set i d) (vs.set i v)
  | _, _, _, .nil => .nil
  | _, _, 0, .cons _ t => .cons r t
  | _, _, i + 1, .cons q t => .cons q (RVs.set r i t)
theorem RE.get : ∀ {ρ : Env} {σ : St} {i : Nat} {u : U}, RE G e m H ρ σ → ρ[i]? = some (some u) → ∃ v, σ[i]? = some (some v) ∧ RU G e m H u v
  | _, _, _, _, .nil, h => by simp at h
  | _, _, 0, _, .em _, h => by simp at h
  | _, _, 0, _, .cns r _, h => by simp at h; subst h; exact ⟨_, rfl, r⟩
  | _, _, i + 1, _, .em t, h => by
    obtain ⟨v, h1, h2⟩ := RE.get (i := i) t (by simpa using h)
    exact ⟨v, by simpa using h1, h2⟩
  | _, _, i + 1, _, .cns _ t, h => by
    obtain ⟨v, h1, h2⟩ := RE.get (i := i) t (by simpa using h)
    exact ⟨v, by simpa using h1, h2⟩
theorem RE.set {u : U} {v : V} (r : RU G e m H u v) : ∀ {ρ : Env} {σ : St} (i : Nat), RE G e m H ρ σ → RE G e m H (ρ.set i (some u)) (σ.set i (some v))
  | _, _, _, .nil => .nil
  | _, _, 0, .em t => .cns r t
  | _, _, 0, .cns _ t => .cns r t
  | _, _, i + 1, .em t => .em (RE.set r i t)
  | _, _, i + 1, .cns q t => .cns q (RE.set r i t)
/-- names that hold nothing of use any more -/
theorem RE.wipe1 : ∀ {ρ : Env} {σ : St} (i : Nat), RE G e m H ρ σ → RE G e m H (ρ.set i none) σ
  | _, _, _, .nil => .nil
  | _, _, 0, .em t => .em t
  | _, _, 0, .cns _ t => .em t
  | _, _, i + 1, .em t => .em (RE.wipe1 i t)
  | _, _, i + 1, .cns q t => .cns q (RE.wipe1 i t)
theorem RV.none_of {d : D} {v : V} (r : RV G e H d v) : decide (v = V.non) = (match d with | .non => true | _ => false) := by
  cases r <;> simp
theorem Rd.nn {a : Addr} {o : HO} {e : List Addr} (h : Rd H a o) : H a ≠ none := by
  rcases h with h | ⟨o', h⟩ <;> rw [h] <;> simp
end

/-! ### new objects -/
section
variable {G : Gc} {x m e : List Addr} {H : Hp} {p : Addr} {o : HO}
theorem Ext.new (h : H p = none) : Ext G m H m (upd H p o) where
  keep := fun b u q _ _ => by rw [upd_ne (ne_of_none q h)]; exact q
  tups := fun b u q => by rw [upd_ne (ne_of_none q h)]; exact q
  frzs := fun b u w q => by rw [upd_ne (ne_of_none q h)]; exact q
  owns := fun b u q => by rw [upd_ne (ne_of_none q h)]; exact q
  live := fun b ⟨u, q, n⟩ => ⟨u, by rw [upd_ne (ne_of_none q h)]; exact q, n⟩
  pre := ⟨[], by simp, fun _ z => by cases z⟩
  tab := fun t => t.ext fun b u q => by rw [upd_ne (ne_of_none q h)]; exact q
theorem sqt_new (h : H p = none) {a : Addr} {xs : List V} (q : SqT G.K H a xs) : SqT G.K (upd H p o) a xs := SqT.ext (G := G) (m := []) (m' := []) (Ext.new h) q
theorem kp_new (h : H p = none) (he : ∀ b ∈ e, ∃ u, H b = some u) : Keep G e H e (upd H p o) where
  tup := fun a xs q => sqt_new h q
  lst := fun a ns q => Sc.ext (G := G) (m := []) (m' := []) (Ext.new h) q
  lsk := fun a xs q n => ⟨by rw [upd_ne (ne_of_none q h)]; exact q, n⟩
  dic := fun a u t ks xs q n r => ⟨by rw [upd_ne (ne_of_none q h)]; exact q, n, r.ext fun _ _ z => sqt_new h z⟩
theorem new_out (h : H p = none) (he : ∀ b ∈ e, ∃ u, H b = some u) : p ∉ e := fun z => by
  obtain ⟨u, q⟩ := he p z
  rw [h] at q; cases q
theorem RV.newTup {ds : List D} {vs : List V} (r : RVs G e H ds vs) (h : H p = none) (he : ∀ b ∈ e, ∃ u, H b = some u) : RV G e (upd H p (.tup vs)) (.tup ds) (.ref p) :=
  .tup (.inl (.inl upd_same)) (r.keep (kp_new h he))
theorem RV.newLst {ds : List D} {vs : List V} (r : RVs G e H ds vs) (h : H p = none) (he : ∀ b ∈ e, ∃ u, H b = some u) : RV G e (upd H p (.lst vs)) (.lst ds) (.ref p) :=
  .lst upd_same (new_out h he) (r.keep (kp_new h he))
theorem RV.newDic {o : HO} {t : Bool} {ks : List NestedKey} {ds : List D} {vs : List V} (r : RVs G e H ds vs) (q : RD G H p t ks vs o) (h : H p = none) (he : ∀ b ∈ e, ∃ u, H b = some u) : RV G e (upd H p o) (.dic t ks ds) (.ref p) :=
  .dic upd_same (new_out h he) (q.ext fun _ _ z => sqt_new h z) (r.keep (kp_new h he))
theorem RS.live {S : Sto} {a : Addr} (r : RS G e m H S) (h : a ∈ m) : ∃ o, H a = some o := by
  obtain ⟨i, hi, e1⟩ := List.mem_iff_getElem.mp h
  have hl : i < S.length := by rw [← r.len]; exact hi
  obtain ⟨o, h1, _⟩ := r.at' i a S[i] (by rw [List.getElem?_eq_getElem hi, e1]) (List.getElem?_eq_getElem hl)
  exact ⟨o, h1⟩
theorem Rp.trk {ρ : Env} {S : Sto} {σ : St} (p : Rp G x m H ρ S σ) : ∀ b ∈ x ++ m, ∃ o, H b = some o := fun b hb => by
  rcases List.mem_append.mp hb with hb | hb
  · obtain ⟨o, q, _⟩ := p.ex b hb
    exact ⟨o, q⟩
  · exact p.sto.live hb
theorem RS.nt {S : Sto} {a : Addr} (r : RS G e m H S) (h : a ∈ m) : Nt H a := by
  obtain ⟨i, hi, e1⟩ := List.mem_iff_getElem.mp h
  have hl : i < S.length := by rw [← r.len]; exact hi
  obtain ⟨o, h1, h2⟩ := r.at' i a S[i] (by rw [List.getElem?_eq_getElem hi, e1]) (List.getElem?_eq_getElem hl)
  refine ⟨o, h1, ?_⟩
  generalize S[i] = c at h2
  cases h2 with
  | lst _ => exact fun ps z => by cases z
  | dic q _ => exact q.notbl
  | ins _ _ _ => exact fun ps z => by cases z
theorem Rp.trkN {ρ : Env} {S : Sto} {σ : St} (p : Rp G x m H ρ S σ) : ∀ b ∈ x ++ m, Nt H b := fun b hb => by
  rcases List.mem_append.mp hb with hb | hb
  · exact p.ex b hb
  · exact p.sto.nt hb
theorem RF.keep {e' : List Addr} {H' : Hp} (k : Keep G e H e' H') : ∀ {fs : List (Str × D)} {gs : List (Str × V)}, RF G e H fs gs → RF G e' H' fs gs
  | _, _, .nil => .nil
  | _, _, .cons r t => .cons (r.keep k) (RF.keep k t)
/-- the store stays where the cells stay -/
theorem RS.stay {S : Sto} {H' : Hp} (r : RS G (x ++ m) m H S) (E : Ext G m H m H') (h : ∀ a ∈ m, H' a = H a) : RS G (x ++ m) m H' S := by
  refine ⟨r.len, r.nd, r.ins, fun i a c h1 h2 => ?_⟩
  obtain ⟨o, q1, q2⟩ := r.at' i a c h1 h2
  refine ⟨o, by rw [h a (List.mem_of_getElem? h1)]; exact q1, ?_⟩
  cases q2 with
  | lst q => exact .lst (q.keep E.kp)
  | dic q1 q => exact .dic (q1.ext fun _ _ z => SqT.ext E z) (q.keep E.kp)
  | ins g1 g2 q => exact .ins g1 (E.owns _ _ g2) (q.keep E.kp)
theorem RS.new {S : Sto} (r : RS G (x ++ m) m H S) (h : H p = none) : RS G (x ++ m) m (upd H p o) S :=
  r.stay (Ext.new h) fun a ha => by
    obtain ⟨u, q⟩ := r.live ha
    rw [upd_ne (ne_of_none q h)]
end

/-! ### lists of expressions -/
def argsM : List ME → MA
  | [] => fun _ S => .ok [] S
  | f :: fs => fun ρ S => (f ρ S).bind fun u S1 => (argsM fs ρ S1).bind fun us S2 => .ok (u :: us) S2
theorem O.bind_ok {α β : Type} {o : O α} {f : α → Sto → O β} {b : β} {S' : Sto} (h : o.bind f = .ok b S') : ∃ a S, o = .ok a S ∧ f a S = .ok b S' := by
  cases o with
  | ok a S => exact ⟨a, S, rfl, h⟩
  | ex e S => simp [O.bind] at h
  | un => simp [O.bind] at h
theorem argsM_len : ∀ {fs : List ME} {ρ : Env} {S S' : Sto} {us : List U}, argsM fs ρ S = .ok us S' → us.length = fs.length
  | [], _, _, _, _, h => by simp [argsM] at h; simp [← h.1]
  | f :: fs, ρ, S, S', us, h => by
    obtain ⟨u, S1, h1, h2⟩ := O.bind_ok h
    obtain ⟨us', S2, h3, h4⟩ := O.bind_ok h2
    cases h4
    simp [argsM_len h3]
section
variable {X : Cx} {T : List (Addr × Str)} {W : WX} {e : Expr} {es : List Expr} {f f1 f2 : ME} {fs : List ME} {pos : Pos}
theorem a_nil : PA X [] (tA (gOf X T) W (argsM [])) := pa_mono pa_nil fun σ H Q h => by
  obtain ⟨x, m, ρ, S, p, h⟩ := h
  exact h m H Ext.refl p.sto [] .nil
theorem a_cons (ha : PE X e (tE (gOf X T) W f)) (hr : PA X es (tA (gOf X T) W (argsM fs))) (hs : starEach (e :: es) X.env = (false, eval e X.env) :: starEach es X.env := by rfl) : PA X (e :: es) (tA (gOf X T) W (argsM (f :: fs))) := pa_mono (pa_cons ha hr hs) fun σ H Q h => by
  obtain ⟨x, m, ρ, S, p, h⟩ := h
  refine ⟨x, m, ρ, S, p, (Post.bind h).mono fun u S1 m1 H1 E1 R1 ⟨_, _, h1⟩ v rv => ?_⟩
  refine ⟨x, m1, ρ, S1, p.ext E1 R1, (Post.bind h1).mono fun us S2 m2 H2 E2 R2 ⟨_, _, h2⟩ vs rvs => ?_⟩
  exact h2 m2 H2 Ext.refl R2 _ (.cons (rv.ext E2) rvs)

/-! ### names, constants -/
def varM (i : Nat) : ME := fun ρ S => match ρ[i]? with
  | some (some u) => .ok u S
  | _ => .un
def conM (d : D) : ME := fun _ S => .ok (.d d) S
theorem e_var (i : Nat) {x : Str} (hN : X.N[i]? = some x := by rfl) (hv : Vis X.env.scope x := by first | exact Or.inl rfl | exact Or.inr (Or.inl rfl) | exact Or.inr (Or.inr rfl)) (hd : (x == ("__debug__" : Str)) = false := by decide)
    (hcd : (x == ("__classdict__" : Str)) = false := by decide) : PE X (.Name x pos) (tE (gOf X T) W (varM i)) := pe_mono (pe_var hN hv hd hcd) fun σ H Q h => by
  obtain ⟨y, m, ρ, S, p, h⟩ := h
  unfold varM at h
  cases q : ρ[i]? with
  | none => rw [q] at h; exact h.elim
  | some o =>
    cases o with
    | none => rw [q] at h; exact h.elim
    | some u =>
      rw [q] at h
      obtain ⟨v, h1, h2⟩ := p.env.get q
      exact ⟨v, h1, h m H Ext.refl p.sto v h2⟩
theorem tC_of {v : V} {d : D} (hr : ∀ e H, RV (gOf X T) e H d v) : ∀ σ H Q, tE (gOf X T) W (conM d) σ H Q → tC v σ H Q := fun σ H Q h => by
  obtain ⟨x, m, ρ, S, p, h⟩ := h
  exact h m H Ext.refl p.sto v (.d (hr _ _))
theorem e_int {i j pos} : PE X (.Constant (.int i) j pos) (tE (gOf X T) W (conM (.int i))) := pe_mono pe_int (tC_of fun _ _ => .int i)
theorem e_bl {i j pos} : PE X (.Constant (.bool i) j pos) (tE (gOf X T) W (conM (.bl i))) := pe_mono pe_bl (tC_of fun _ _ => .bl i)
theorem e_non {j pos} : PE X (.Constant .none j pos) (tE (gOf X T) W (conM .non)) := pe_mono pe_non (tC_of fun _ _ => .non)
theorem e_str {i j pos} : PE X (.Constant (.str i) j pos) (tE (gOf X T) W (conM (.str i))) := pe_mono pe_str (tC_of fun _ _ => .str i)
/-- a constant of the module -/
structure KD (G : Gc) (x : Str) (d : D) : Prop where
  ex : ∃ u v, G.mg x = some u ∧ RelV v u ∧ ∀ e H, RV G e H d v
theorem e_glob {x : Str} {d : D} (h : KD (gOf X T) x d) (hg : Gl X x := by rfl) (hd : (x == ("__debug__" : Str)) = false := by decide) : PE X (.Name x pos) (tE (gOf X T) W (conM d)) := by
  obtain ⟨u, v, h1, h2, h3⟩ := h.ex
  exact pe_mono (pe_glob hg h1 h2 hd) (tC_of h3)

/-! ### displays -/
def tupM (fs : List ME) : ME := fun ρ S => (argsM fs ρ S).bind fun us S' => match pures us with
  | some ds => .ok (.d (.tup ds)) S'
  | none => .un
def lstM (fs : List ME) : ME := fun ρ S => (argsM fs ρ S).bind fun us S' => match pures us with
  | some ds => .ok (.d (.lst ds)) S'
  | none => .un
def nlsM (fs : List ME) : ME := fun ρ S => (argsM fs ρ S).bind fun us S' => match pures us with
  | some ds => .ok (.c S'.length) (S' ++ [.lst ds])
  | none => .un
theorem e_tup {k} (h : PA X es (tA (gOf X T) W (argsM fs))) (hl : Nat.ble fs.length 1000 = true := by rfl) : PE X (.Tuple es k pos) (tE (gOf X T) W (tupM fs)) := pe_mono (pe_tup h) fun σ H Q h => by
  obtain ⟨x, m, ρ, S, p, h⟩ := h
  cases q : argsM fs ρ S with
  | ok us S' =>
    refine ⟨x, m, ρ, S, p, ?_⟩
    rw [q]
    intro m1 H1 E1 R1 vs rvs
    have hn : vs.length = fs.length := by rw [← RUs.length rvs, argsM_len q]
    refine ⟨Nat.le_of_lt (small1000 (by rw [hn]; exact Nat.le_of_ble_eq_true hl)), fun p' np => ?_⟩
    simp only [tupM, q, O.bind] at h
    split at h
    · rename_i ds hd
      exact h m1 _ (E1.trans (Ext.new np)) (R1.new np) _ (.d (RV.newTup (RUs.pure rvs hd) np (p.ext E1 R1).trk))
    · exact h.elim
  | ex e S' =>
    refine ⟨x, m, ρ, S, p, ?_⟩
    simp only [tupM, q, O.bind] at h ⊢
    exact h
  | un =>
    simp only [tupM, q, O.bind] at h
    exact h.elim
theorem e_lst (h : PA X es (tA (gOf X T) W (argsM fs))) (hl : Nat.ble fs.length 1000 = true := by rfl) : PE X (.List es pos) (tE (gOf X T) W (lstM fs)) := pe_mono (pe_lst h) fun σ H Q h => by
  obtain ⟨x, m, ρ, S, p, h⟩ := h
  cases q : argsM fs ρ S with
  | ok us S' =>
    refine ⟨x, m, ρ, S, p, ?_⟩
    rw [q]
    intro m1 H1 E1 R1 vs rvs
    have hn : vs.length = fs.length := by rw [← RUs.length rvs, argsM_len q]
    refine ⟨Nat.le_of_lt (small1000 (by rw [hn]; exact Nat.le_of_ble_eq_true hl)), fun p' np => ?_⟩
    simp only [lstM, q, O.bind] at h
    split at h
    · rename_i ds hd
      exact h m1 _ (E1.trans (Ext.new np)) (R1.new np) _ (.d (RV.newLst (RUs.pure rvs hd) np (p.ext E1 R1).trk))
    · exact h.elim
  | ex e S' =>
    refine ⟨x, m, ρ, S, p, ?_⟩
    simp only [lstM, q, O.bind] at h ⊢
    exact h
  | un =>
    simp only [lstM, q, O.bind] at h
    exact h.elim
end
/-! a new object becomes a cell -/
section
variable {G : Gc} {x m : List Addr} {H : Hp} {S : Sto} {p : Addr} {o : HO} {c : Cell}
theorem Ext.cell (np : H p = none) : Ext G m H (m ++ [p]) (upd H p o) :=
  { (Ext.new (G := G) (m := m) (o := o) np) with pre := ⟨[p], rfl, fun b hb => by have : b = p := by simpa using hb
                                                                                  subst this; exact fun ⟨u, q, _⟩ => by rw [np] at q; cases q⟩ }
theorem RC.ext {m' : List Addr} {H' : Hp} {a : Addr} {c : Cell} {o : HO} (E : Ext G m H m' H') (q : RC G (x ++ m) H a c o) : RC G (x ++ m') H' a c o := by
  cases q with
  | lst q => exact .lst (q.keep E.kp)
  | dic q1 q => exact .dic (q1.ext fun _ _ z => SqT.ext E z) (q.keep E.kp)
  | ins g1 g2 q => exact .ins g1 (E.owns _ _ g2) (q.keep E.kp)
theorem RS.cell (r : RS G (x ++ m) m H S) (np : H p = none) (hc : RC G (x ++ (m ++ [p])) (upd H p o) p c o) : RS G (x ++ (m ++ [p])) (m ++ [p]) (upd H p o) (S ++ [c]) := by
  have nm : p ∉ m := fun z => by
    obtain ⟨u, q⟩ := r.live z
    rw [np] at q; cases q
  refine ⟨by simp [r.len], List.nodup_append.mpr ⟨r.nd, by simp, fun a ha b hb => ?_⟩, fun b hb => ?_, fun i a c' h1 h2 => ?_⟩
  · have : b = p := by simpa using hb
    subst this
    exact fun z => nm (z ▸ ha)
  · exact List.mem_append_right _ hb
  · by_cases hi : i < m.length
    · rw [List.getElem?_append_left hi] at h1
      rw [List.getElem?_append_left (by rw [← r.len]; exact hi)] at h2
      obtain ⟨o', q1, q2⟩ := r.at' i a c' h1 h2
      exact ⟨o', by rw [upd_ne (ne_of_none q1 np)]; exact q1, q2.ext (Ext.cell np)⟩
    · have e1 : i = m.length := by
        have := (List.getElem?_eq_some_iff.mp h1).1
        simp at this
        omega
      subst e1
      rw [List.getElem?_append_right (Nat.le_refl _), Nat.sub_self] at h1
      rw [r.len, List.getElem?_append_right (Nat.le_refl _), Nat.sub_self] at h2
      have e2 : p = a := Option.some.inj h1
      have e3 : c = c' := Option.some.inj h2
      subst e2 e3
      exact ⟨o, upd_same, hc⟩
end
section
variable {X : Cx} {T : List (Addr × Str)} {W : WX} {e : Expr} {es : List Expr} {f f1 f2 : ME} {fs : List ME} {pos : Pos}
theorem e_nls (h : PA X es (tA (gOf X T) W (argsM fs))) (hl : Nat.ble fs.length 1000 = true := by rfl) : PE X (.List es pos) (tE (gOf X T) W (nlsM fs)) := pe_mono (pe_lst h) fun σ H Q h => by
  obtain ⟨x, m, ρ, S, p, h⟩ := h
  cases q : argsM fs ρ S with
  | ok us S' =>
    refine ⟨x, m, ρ, S, p, ?_⟩
    rw [q]
    intro m1 H1 E1 R1 vs rvs
    have hn : vs.length = fs.length := by rw [← RUs.length rvs, argsM_len q]
    refine ⟨Nat.le_of_lt (small1000 (by rw [hn]; exact Nat.le_of_ble_eq_true hl)), fun p' np => ?_⟩
    simp only [nlsM, q, O.bind] at h
    split at h
    · rename_i ds hd
      have E2 : Ext (gOf X T) m1 H1 (m1 ++ [p']) (upd H1 p' (.lst vs)) := Ext.cell np
      exact h (m1 ++ [p']) _ (E1.trans E2) (R1.cell np (.lst ((RUs.pure rvs hd).keep E2.kp))) _ (.c (by rw [← R1.len]; simp))
    · exact h.elim
  | ex e S' =>
    refine ⟨x, m, ρ, S, p, ?_⟩
    simp only [nlsM, q, O.bind] at h ⊢
    exact h
  | un =>
    simp only [nlsM, q, O.bind] at h
    exact h.elim

/-! ### operators -/
def op2M (g : D → D → Option D) (f1 f2 : ME) : ME := fun ρ S => (f1 ρ S).bind fun u S1 => (f2 ρ S1).bind fun w S2 =>
  match rd S2 u, rd S2 w with
  | some x, some y => match g x y with
    | some z => .ok (.d z) S2
    | none => .un
  | _, _ => .un
def op1M (g : D → Option D) (f1 : ME) : ME := fun ρ S => (f1 ρ S).bind fun u S1 =>
  match rd S1 u with
  | some x => match g x with
    | some z => .ok (.d z) S1
    | none => .un
  | none => .un
/-- an operation that makes no cell and changes none: what is asked, by data -/
def rG (G : Gc) (g : D → D → Option D) : R2 := fun vx vy H Q => ∃ x y z e m, g x y = some z ∧ (∀ b ∈ e, ∃ o, H b = some o) ∧ RT G e H x vx ∧ RT G e H y vy ∧
  ∀ H' w, Ext G m H m H' → (∀ a ∈ m, H a ≠ none → H' a = H a) → RV G e H' z w → Q w H'
def rG1 (G : Gc) (g : D → Option D) : V → Hp → VK → Prop := fun vx H Q => ∃ x z e m, g x = some z ∧ (∀ b ∈ e, ∃ o, H b = some o) ∧ RT G e H x vx ∧
  ∀ H' w, Ext G m H m H' → (∀ a ∈ m, H a ≠ none → H' a = H a) → RV G e H' z w → Q w H'
theorem op2_red {a b : TE} {g : D → D → Option D} {σ : St} {H : Hp} {Q : VK} (h : tE (gOf X T) W (op2M g f1 f2) σ H Q) : tOp (rG (gOf X T) g) (tE (gOf X T) W f1) (tE (gOf X T) W f2) σ H Q := by
  obtain ⟨x, m, ρ, S, p, h⟩ := h
  refine ⟨x, m, ρ, S, p, (Post.bind h).mono fun u S1 m1 H1 E1 R1 ⟨_, _, h1⟩ v rv => ?_⟩
  refine ⟨x, m1, ρ, S1, p.ext E1 R1, (Post.bind h1).mono fun w S2 m2 H2 E2 R2 ⟨_, _, h2⟩ v' rv' => ?_⟩
  have p2 := (p.ext E1 R1).ext E2 R2
  skip
  split at h2
  · rename_i dx dy q1 q2
    split at h2
    · rename_i z q3
      exact ⟨dx, dy, z, x ++ m2, m2, q3, p2.trk, (rv.ext E2).rt R2 q1, rv'.rt R2 q2, fun H' w' E3 hs r => h2 m2 H' E3 (R2.stay E3 fun a ha => hs a ha (by obtain ⟨o, q⟩ := R2.live ha; rw [q]; simp)) w' (.d r)⟩
    · exact h2.elim
  · exact h2.elim
theorem op1_red {g : D → Option D} {σ : St} {H : Hp} {Q : VK} (h : tE (gOf X T) W (op1M g f1) σ H Q) : tUn (rG1 (gOf X T) g) (tE (gOf X T) W f1) σ H Q := by
  obtain ⟨x, m, ρ, S, p, h⟩ := h
  refine ⟨x, m, ρ, S, p, (Post.bind h).mono fun u S1 m1 H1 E1 R1 ⟨_, _, h1⟩ v rv => ?_⟩
  have p1 := p.ext E1 R1
  skip
  split at h1
  · rename_i dx q1
    split at h1
    · rename_i z q3
      exact ⟨dx, z, x ++ m1, m1, q3, p1.trk, rv.rt R1 q1, fun H' w' E3 hs r => h1 m1 H' E3 (R1.stay E3 fun a ha => hs a ha (by obtain ⟨o, q⟩ := R1.live ha; rw [q]; simp)) w' (.d r)⟩
    · exact h1.elim
  · exact h1.elim
theorem e_op {a b : Expr} {op : Operator} {g : D → D → Option D} (ho : OpR X (binaryOp op) (rG (gOf X T) g)) (ha : PE X a (tE (gOf X T) W f1)) (hb : PE X b (tE (gOf X T) W f2)) : PE X (.BinOp a op b pos) (tE (gOf X T) W (op2M g f1 f2)) :=
  pe_mono (pe_op ho ha hb) fun σ H Q h => op2_red (a := fun _ _ _ => True) (b := fun _ _ _ => True) h
theorem e_cmp {a b : Expr} {op : CmpOp} {g : D → D → Option D} (ho : OpR X (compareOp op) (rG (gOf X T) g)) (ha : PE X a (tE (gOf X T) W f1)) (hb : PE X b (tE (gOf X T) W f2)) (hm : behindInMarks op b = false := by first | exact nomark _ | rfl) : PE X (.Compare a [op] [b] pos) (tE (gOf X T) W (op2M g f1 f2)) :=
  pe_mono (pe_cmpR ho ha hb hm) fun σ H Q h => op2_red (a := fun _ _ _ => True) (b := fun _ _ _ => True) h
theorem e_un {a : Expr} {op : UnaryOp} {g : D → Option D} (ho : UnR X (unaryOp op) (rG1 (gOf X T) g)) (ha : PE X a (tE (gOf X T) W f1)) : PE X (.UnaryOp op a pos) (tE (gOf X T) W (op1M g f1)) :=
  pe_mono (pe_un ho ha) fun σ H Q h => op1_red h
/-- a value that is a truth, as a test -/
def tstM (f : ME) : MT := fun ρ S => (f ρ S).bind fun u S1 => match u with
  | .d (.bl b) => .ok b S1
  | _ => .un
theorem tst_red {t : TE} {σ : St} {H : Hp} {Q : Bool → Hp → Prop} (h : tT (gOf X T) W (tstM f) σ H Q) : tE (gOf X T) W f σ H fun x H' => ∃ k, x = .bl k ∧ Q k H' := by
  obtain ⟨x, m, ρ, S, p, h⟩ := h
  refine ⟨x, m, ρ, S, p, (Post.bind h).mono fun u S1 m1 H1 E1 R1 ⟨_, _, h1⟩ v rv => ?_⟩
  split at h1
  · rename_i b
    cases rv with
    | d r => cases r; exact ⟨_, rfl, h1 m1 H1 Ext.refl R1⟩
  · exact h1.elim
theorem t_cmp {a b : Expr} {op : CmpOp} {g : D → D → Option D} (ho : OpR X (compareOp op) (rG (gOf X T) g)) (ha : PE X a (tE (gOf X T) W f1)) (hb : PE X b (tE (gOf X T) W f2)) (hm : behindInMarks op b = false := by first | exact nomark _ | rfl) : PT X (.Compare a [op] [b] pos) (tT (gOf X T) W (tstM (op2M g f1 f2))) :=
  pt_mono (pt_cmpR ho ha hb hm) fun σ H Q h => op2_red (a := fun _ _ _ => True) (b := fun _ _ _ => True) (tst_red (t := fun _ _ _ => True) h)
theorem t_val {e : Expr} (h : PE X e (tE (gOf X T) W f)) (he : ∀ whole, isTrue e X.env whole = (do let v ← whole; standAt e.pos; holding [v] (truthy v)) := by intro _; rfl) : PT X e (tT (gOf X T) W (tstM f)) :=
  pt_mono (pt_val h he) fun σ H Q h => tst_red (t := fun _ _ _ => True) h
end
end Mir

/-! Mir3: the operators, by data. -/
namespace Mir
open PySem PySem.Spec PyProof.Rows L2
theorem tuple_mul1W (l : Addr) (items : Array Value) (n : Nat) (dd : Option Addr) (sl : Array (Option Value)) (x : Int) (u : Tok) (c0 : (decide (x < -(2 ^ 63)) || decide (x ≥ 2 ^ 63)) = false) (c1 : (items.isEmpty || x == 1) = true) :
    Meets (Builtin.«tuple.__mul__» ⟨[.ref l, .int x u], []⟩) (fun _ R s => s.heap.get? l = some { cls := .type "tuple", dict := dd, data := .seq items n, slots := sl } ∧
      R (.ok (.ret (Value.ref l))) { s with heap := s.heap, toks := s.toks }) :=
  .of_wp fun prog w A R s h => by
    obtain ⟨hp, g, d, tk, os⟩ := s
    obtain ⟨hl, h⟩ := h
    have f1 := AutoSeq1.idx_int
    wp_walk using wpAny_loadPart' hl
    repeat (first
      | (refine wpAny_ite_false (decide_eq_false (by rw [c0]; exact Bool.false_ne_true)) ?_; wp_walk using wpAny_loadPart' hl)
      | (refine wpAny_ite_true (decide_eq_true (by rw [c1])) ?_; wp_walk using wpAny_loadPart' hl))
    exact ⟨_, rfl, h⟩
theorem tuple_mul0W (l : Addr) (items : Array Value) (n : Nat) (dd : Option Addr) (sl : Array (Option Value)) (x : Int) (u : Tok) (c0 : (decide (x < -(2 ^ 63)) || decide (x ≥ 2 ^ 63)) = false) (c1 : (items.isEmpty || x == 1) = false) (c2 : (decide (x ≤ 0) || items.isEmpty) = true) :
    Meets (Builtin.«tuple.__mul__» ⟨[.ref l, .int x u], []⟩) (fun _ R s => s.heap.get? l = some { cls := .type "tuple", dict := dd, data := .seq items n, slots := sl } ∧
      R (.ok (.ret (Value.ref s.heap.objs.size))) { s with heap := s.heap.push { cls := Value.type "tuple", data := Data.seq #[] }, toks := s.toks }) :=
  .of_wp fun prog w A R s h => by
    obtain ⟨hp, g, d, tk, os⟩ := s
    obtain ⟨hl, h⟩ := h
    have f1 := AutoSeq1.idx_int
    wp_walk using wpAny_loadPart' hl
    repeat (first
      | (refine wpAny_ite_false (decide_eq_false (by rw [c0]; exact Bool.false_ne_true)) ?_; wp_walk using wpAny_loadPart' hl)
      | (refine wpAny_ite_false (decide_eq_false (by rw [c1]; exact Bool.false_ne_true)) ?_; wp_walk using wpAny_loadPart' hl)
      | (refine wpAny_ite_true (decide_eq_true (by rw [c2])) ?_; wp_walk using wpAny_loadPart' hl))
    exact ⟨_, rfl, h⟩
/-- t * k: the tuple itself; the empty one; a new one -/
def rRepA (K : PySem.W.Frag) : R2 := fun x y H Q => ∃ l k xs, x = .ref l ∧ y = .int k ∧ SqT K H l xs ∧ -1000 ≤ k ∧ k ≤ 1000 ∧ xs.length ≤ 1000 ∧
  (xs = [] ∨ k = 1 → Q (.ref l) H) ∧ (¬ (xs = [] ∨ k = 1) → ∀ p, H p = none → Q (.ref p) (upd H p (.tup (List.replicate k.toNat xs).flatten)))
section
variable {X : Cx}
theorem op_repA : OpR X (binaryOp .Mult) (rRepA X.K) := by
  intro pins s σ H x y v u Q I rx ry h
  obtain ⟨l, k, xs, rfl, rfl, hT, h0, h1, hz, q1, q2⟩ := h
  by_cases hs : xs = [] ∨ k = 1
  · have q := q1 hs
    cases rx
    obtain ⟨t, rfl⟩ := ry
    obtain ⟨its, r, ⟨⟨cls, dd, data, sl⟩, ho, hc, n, hd⟩, hs2⟩ := I.tuple hT
    simp only at hc hd
    subst hc hd
    have hle : its.length = xs.length := r.length.symm
    have c0 : (decide (k < -(2 ^ 63)) || decide (k ≥ 2 ^ 63)) = false := by
      rw [decide_eq_false (by omega), decide_eq_false (by omega)] <;> rfl
    have c1 : (its.toArray.isEmpty || k == 1) = true := by
      rcases hs with e | e
      · subst e
        have : its = [] := List.eq_nil_of_length_eq_zero hle
        subst this
        rfl
      · subst e
        simp
    exact wpAny_binaryOp_repeat_ref (T := "tuple") (U := "int") (by decide) ⟨_, ho, rfl⟩ (fun s' => typeIs_int s' k t) noFill_tuple_mul F.fills_int_mul F.slot_int_rmul repeat_tuple F.slot_int_index.lookup
      (call_meets F.slot_int_rmul (typeIs_int s k t) F.entry_int_rmul (F.args_int_rmul_2 _ _) (int_rmul_tuple k t l its.toArray n dd sl)
        ⟨ho, rfl, ⟨_, ho, rfl⟩, call_meets F.slot_tuple_mul ⟨_, ho, rfl⟩ F.entry_tuple_mul (F.args_tuple_mul_2 _ _) (tuple_mul1W l its.toArray n dd sl k t c0 c1) ⟨ho, ⟨.ref l, H, I, rfl, q⟩⟩⟩)
  · have hne : xs ≠ [] := fun e => hs (.inl e)
    have hk1 : k ≠ 1 := fun e => hs (.inr e)
    by_cases h2 : 2 ≤ k
    · exact op_repT pins s σ H _ _ v u Q I rx ry ⟨l, k, xs, rfl, rfl, hT, hne, h2, h1, hz, q2 hs⟩
    · cases rx
      obtain ⟨t, rfl⟩ := ry
      obtain ⟨its, r, ⟨⟨cls, dd, data, sl⟩, ho, hc, n, hd⟩, hs2⟩ := I.tuple hT
      simp only at hc hd
      subst hc hd
      have hle : its.length = xs.length := r.length.symm
      have hn : its ≠ [] := fun e => hne (by
        rw [e] at hle
        exact List.eq_nil_of_length_eq_zero hle.symm)
      have hi : its.toArray.isEmpty = false := by
        cases its with
        | nil => exact absurd rfl hn
        | cons a b => rfl
      have c0 : (decide (k < -(2 ^ 63)) || decide (k ≥ 2 ^ 63)) = false := by
        rw [decide_eq_false (by omega), decide_eq_false (by omega)] <;> rfl
      have c1 : (its.toArray.isEmpty || k == 1) = false := by
        rw [hi, Bool.false_or]
        exact beq_eq_false_iff_ne.mpr (by omega)
      have c2 : (decide (k ≤ 0) || its.toArray.isEmpty) = true := by
        rw [decide_eq_true (by omega)]; rfl
      have hk0 : k.toNat = 0 := by omega
      have q3 := q2 hs
      rw [hk0] at q3
      refine wpAny_binaryOp_repeat_ref (T := "tuple") (U := "int") (by decide) ⟨_, ho, rfl⟩ (fun s' => typeIs_int s' k t) noFill_tuple_mul F.fills_int_mul F.slot_int_rmul repeat_tuple F.slot_int_index.lookup
        (call_meets F.slot_int_rmul (typeIs_int s k t) F.entry_int_rmul (F.args_int_rmul_2 _ _) (int_rmul_tuple k t l its.toArray n dd sl)
          ⟨ho, rfl, ⟨_, ho, rfl⟩, call_meets F.slot_tuple_mul ⟨_, ho, rfl⟩ F.entry_tuple_mul (F.args_tuple_mul_2 _ _) (tuple_mul0W l its.toArray n dd sl k t c0 c1 c2) ⟨ho, ?_⟩⟩)
      refine ⟨.ref s.heap.objs.size, _, I.laid (t' := s.toks) (o := .tup []) (fun b ob q => Heap.get?_push_of_some _ q) (Nat.le_refl _) ?_, rfl, q3 _ (I.hok.fresh (Nat.le_refl _))⟩
      exact ⟨by rw [sizeLine_eq]; decide, [], .nil, IsTup.new _ _⟩
end
def big : Nat := 1000000
theorem big_ok {n : Nat} (h : n ≤ big) : n ≤ sizeLine := Nat.le_trans h (by rw [sizeLine_eq]; decide)
theorem big_lt {n : Nat} (h : n ≤ big) : n < sizeLine := Nat.lt_of_le_of_lt h (by rw [sizeLine_eq]; decide)

/-! ### data as the library's data -/
mutual
def D.P : D → PyData
  | .non => .none
  | .bl b => .bool b
  | .int i => .int i
  | .str x => .str x
  | .tup xs => .tuple (Ps xs)
  | .lst xs => .list (Ps xs)
  | .dic _ _ _ => .dict []
  | .scr _ => .dict []
def Ps : List D → List PyData
  | [] => []
  | d :: ds => D.P d :: Ps ds
end
theorem Ps_map : ∀ ds : List D, Ps ds = ds.map D.P
  | [] => rfl
  | d :: ds => by simp [Ps, Ps_map ds]
section
variable {G : Gc} {e : List Addr} {H : Hp}
mutual
theorem RV.dp : ∀ {d : D} {v : V}, RV G e H d v → PyData.canLay0 d.P = true → Dp G.K H v d.P
  | _, _, .non, _ => .non
  | _, _, .bl b, _ => .bl b
  | _, _, .int i, _ => .int i
  | _, _, .str x, _ => .str x
  | _, _, .tup h r, c => .tup h (RVs.dp r c)
  | _, _, .lst h n r, c => .lst (.of h) (RVs.dp r c)
  | _, _, .scr h, c => by simp [D.P, PyData.canLay0] at c
  | _, _, .dic h n q r, c => by simp [D.P, PyData.canLay0] at c
theorem RVs.dp : ∀ {ds : List D} {vs : List V}, RVs G e H ds vs → PyData.canLayAll0 (Ps ds) = true → DpAll G.K H vs (Ps ds)
  | _, _, .nil, _ => .nil
  | _, _, .cons r t, c => by
    have c' := Bool.and_eq_true_iff.mp (show (PyData.canLay0 (D.P _) && PyData.canLayAll0 (Ps _)) = true from c)
    exact .cons (RV.dp r c'.1) (RVs.dp t c'.2)
end
theorem RT.dp {d : D} {v : V} (r : RT G e H d v) (c : SeqAt.shaped d.P = true) : Dp G.K H v d.P := by
  have c0 := SeqAt.canLay_of_shaped c
  cases r with
  | of r => exact r.dp c0
  | lst h r => exact .lst (.of h) (r.dp c0)
  | dic h q r => simp [D.P, PyData.canLay0] at c0
end

/-! ### arithmetic -/
def mulOk (i j : Int) : Bool := decide (i.natAbs < 2 ^ 64) || decide (j.natAbs < 2 ^ 64)
def addG : D → D → Option D
  | .int i, .int j => some (.int (i + j))
  | .str x, .str y => if x.length + y.length ≤ big then some (.str (x ++ y)) else none
  | .tup xs, .tup ys => if xs.length + ys.length ≤ big then some (.tup (xs ++ ys)) else none
  | .lst xs, .lst ys => if xs.length + ys.length ≤ big then some (.lst (xs ++ ys)) else none
  | .lst xs, .scr ns => if xs.length + ns.length ≤ big then some (.lst (xs ++ ns.map D.int)) else none
  | .scr ns, .lst xs => if ns.length + xs.length ≤ big then some (.lst (ns.map D.int ++ xs)) else none
  | _, _ => none
def subG : D → D → Option D
  | .int i, .int j => some (.int (i - j))
  | _, _ => none
def mulG : D → D → Option D
  | .int i, .int j => if mulOk i j then some (.int (i * j)) else none
  | .tup xs, .int k => if -1000 ≤ k ∧ k ≤ 1000 ∧ xs.length ≤ 1000 then some (.tup (List.replicate k.toNat xs).flatten) else none
  | .lst xs, .int k => if 0 ≤ k ∧ k ≤ 1000 ∧ xs.length ≤ 1000 then some (.lst (List.replicate k.toNat xs).flatten) else none
  | _, _ => none
def fdivG : D → D → Option D
  | .int i, .int j => if 0 < j ∧ j.natAbs.log2 < 9000 then some (.int (i / j)) else none
  | _, _ => none
def modG : D → D → Option D
  | .int i, .int j => if 0 < j then some (.int (i % j)) else none
  | _, _ => none
def powG : D → D → Option D
  | .int i, .int j => if 0 ≤ j ∧ j ≤ 1000000 ∧ i.natAbs < 2 ^ 64 then some (.int (i ^ j.toNat)) else none
  | _, _ => none
def negG : D → Option D
  | .int i => some (.int (-i))
  | _ => none
def ltG : D → D → Option D
  | .int i, .int j => some (.bl (decide (i < j)))
  | .str x, .str y => some (.bl (decide (x.cps.toList < y.cps.toList)))
  | _, _ => none
def leG : D → D → Option D
  | .int i, .int j => some (.bl (decide (i ≤ j)))
  | _, _ => none
def gtG : D → D → Option D
  | .int i, .int j => some (.bl (decide (j < i)))
  | _, _ => none
def geG : D → D → Option D
  | .int i, .int j => some (.bl (decide (j ≤ i)))
  | _, _ => none
def eqD (x y : D) : Bool := PyData.eqv x.P y.P
def sh (x : D) : Bool := SeqAt.shaped x.P
def eqG (x y : D) : Option D := if sh x && sh y then some (.bl (eqD x y)) else none
def neG (x y : D) : Option D := if sh x && sh y then some (.bl (!eqD x y)) else none
def isNon : D → Bool
  | .non => true
  | _ => false
def isG : D → D → Option D
  | x, .non => some (.bl (isNon x))
  | .bl a, .bl b => some (.bl (a == b))
  | _, _ => none
def isNotG : D → D → Option D
  | x, .non => some (.bl (!isNon x))
  | .bl a, .bl b => some (.bl (!(a == b)))
  | _, _ => none

section
variable {X : Cx} {T : List (Addr × Str)} {pins : List (Addr × Obj)} {s : Shared} {σ : St} {H : Hp} {x y : D} {e : List Addr} {vx vy : V} {v u : Value} {Q : VK}
theorem noKeep {m : List Addr} {H H' : Hp} (h : H' = H) : ∀ a ∈ m, H a ≠ none → H' a = H a := fun _ _ _ => by rw [h]
theorem newKeep {m : List Addr} {H : Hp} {p : Addr} {o : HO} (h : H p = none) : ∀ a ∈ m, H a ≠ none → upd H p o a = H a := fun a _ q => upd_ne fun z => q (z ▸ h)
/-- list + list, tracked or known -/
theorem op_catL : OpR X (binaryOp .Add) (fun x y H Q => ∃ l b xs zs, x = .ref l ∧ y = .ref b ∧ SqL X.K H l xs ∧ SqL X.K H b zs ∧ xs.length + zs.length ≤ sizeLine ∧ ∀ p, H p = none → Q (.ref p) (upd H p (.lst (xs ++ zs)))) := by
  intro pins s σ H x y v u Q I rx ry h
  obtain ⟨l, b, xs, zs, rfl, rfl, hH, hB, hz, q⟩ := h
  cases rx
  cases ry
  obtain ⟨its1, r1, ⟨⟨c1, d1, t1, s1⟩, n1, g1, e1, f1, k1⟩, _⟩ := I.list hH
  obtain ⟨its2, r2, ⟨⟨c2, d2, t2, s2⟩, n2, g2, e2, f2, k2⟩, _⟩ := I.list hB
  simp only at e1 f1 k1 e2 f2 k2
  subst e1 f1 k1 e2 f2 k2
  refine concat_meets ⟨_, g1, rfl⟩ ⟨_, g2, rfl⟩ noFill_list_add seq_list_add PySem.F.slot_list_add PySem.F.entry_list_add (PySem.F.args_list_add_2 _ _)
    (list_addW l b its1.toArray its2.toArray n1 n2 none none s1 s2 (by rw [List.size_toArray, List.size_toArray, ← r1.length, ← r2.length]; exact hz)) ⟨g1, g2, ?_⟩
  rw [show its1.toArray ++ its2.toArray = (its1 ++ its2).toArray by simp]
  exact ⟨.ref _, _, I.lnew (t' := s.toks) (r1.append r2) (by rw [List.length_append]; exact hz), rfl, q _ I.fresh⟩
theorem RT.tup {G : Gc} {ds : List D} (r : RT G e H (.tup ds) vx) : ∃ a xs, vx = .ref a ∧ SqT G.K H a xs ∧ RVs G e H ds xs := by
  cases r with
  | of r => cases r with
    | tup h r => exact ⟨_, _, rfl, h, r⟩
theorem RT.lst' {G : Gc} {ds : List D} (r : RT G e H (.lst ds) vx) : ∃ a xs, vx = .ref a ∧ H a = some (.lst xs) ∧ RVs G e H ds xs := by
  cases r with
  | of r => cases r with
    | lst h n r => exact ⟨_, _, rfl, h, r⟩
  | lst h r => exact ⟨_, _, rfl, h, r⟩
theorem RT.dic' {G : Gc} {t : Bool} {ks : List NestedKey} {ds : List D} (r : RT G e H (.dic t ks ds) vx) : ∃ a o xs, vx = .ref a ∧ H a = some o ∧ RD G H a t ks xs o ∧ RVs G e H ds xs := by
  cases r with
  | of r => cases r with
    | dic h n q r => exact ⟨_, _, _, rfl, h, q, r⟩
  | dic h q r => exact ⟨_, _, _, rfl, h, q, r⟩
theorem RT.int {G : Gc} {i : Int} (r : RT G e H (.int i) vx) : vx = .int i := by
  cases r with
  | of r => cases r; rfl
theorem RT.str {G : Gc} {i : Str} (r : RT G e H (.str i) vx) : vx = .str i := by
  cases r with
  | of r => cases r; rfl
theorem RT.bl {G : Gc} {i : Bool} (r : RT G e H (.bl i) vx) : vx = .bl i := by
  cases r with
  | of r => cases r; rfl
theorem RT.non {G : Gc} (r : RT G e H .non vx) : vx = .non := by
  cases r with
  | of r => cases r; rfl

theorem RT.scr {G : Gc} {ns : List Int} (r : RT G e H (.scr ns) vx) : ∃ a, vx = .ref a ∧ SqL G.K H a (ns.map V.int) := by
  cases r with
  | of r => cases r with
    | scr h => exact ⟨_, rfl, h.sq⟩
theorem rvs_ints {G : Gc} : ∀ ns : List Int, RVs G e H (ns.map D.int) (ns.map V.int)
  | [] => .nil
  | n :: ns => .cons (.int n) (rvs_ints ns)
theorem o_add : OpR X (binaryOp .Add) (rG (gOf X T) addG) := by
  intro pins s σ H vx vy v u Q I rx ry ⟨x, y, z, e, m, hg, tr, r1, r2, q⟩
  unfold addG at hg
  split at hg
  · rename_i i j
    cases hg
    cases r1.int
    cases r2.int
    exact op_add pins s σ H _ _ v u Q I rx ry ⟨i, j, rfl, rfl, q _ _ Ext.refl (noKeep rfl) (.int _)⟩
  · rename_i i j
    split at hg
    · rename_i hl
      cases hg
      cases r1.str
      cases r2.str
      exact op_add_str pins s σ H _ _ v u Q I rx ry ⟨i, j, rfl, rfl, big_ok hl, q _ _ Ext.refl (noKeep rfl) (.str _)⟩
    · cases hg
  · rename_i ds es
    split at hg
    · rename_i hl
      cases hg
      obtain ⟨a, xs, rfl, h1, q1⟩ := r1.tup
      obtain ⟨b, ys, rfl, h2, q2⟩ := r2.tup
      rw [q1.len, q2.len] at hl
      refine op_catA pins s σ H _ _ v u Q I rx ry ⟨a, b, xs, ys, rfl, rfl, h1, h2, big_ok hl, fun z => ?_, fun _ z => ?_, fun _ _ p hp => ?_⟩
      · subst z
        cases q1
        exact q _ _ Ext.refl (noKeep rfl) (.tup h2 q2)
      · subst z
        cases q2
        rw [List.append_nil] at q
        exact q _ _ Ext.refl (noKeep rfl) (.tup h1 q1)
      · exact q _ _ (Ext.new hp) (newKeep hp) (RV.newTup (q1.append q2) hp tr)
    · cases hg
  · rename_i ds es
    split at hg
    · rename_i hl
      cases hg
      obtain ⟨a, xs, rfl, h1, q1⟩ := r1.lst'
      obtain ⟨b, ys, rfl, h2, q2⟩ := r2.lst'
      rw [q1.len, q2.len] at hl
      exact op_catL pins s σ H _ _ v u Q I rx ry ⟨a, b, xs, ys, rfl, rfl, .of h1, .of h2, big_ok hl, fun p hp => q _ _ (Ext.new hp) (newKeep hp) (RV.newLst (q1.append q2) hp tr)⟩
    · cases hg
  · rename_i ds ns
    split at hg
    · rename_i hl
      cases hg
      obtain ⟨a, xs, rfl, h1, q1⟩ := r1.lst'
      obtain ⟨b, rfl, h2⟩ := r2.scr
      rw [q1.len] at hl
      exact op_catL pins s σ H _ _ v u Q I rx ry ⟨a, b, xs, _, rfl, rfl, .of h1, h2, by rw [List.length_map]; exact big_ok hl, fun p hp => q _ _ (Ext.new hp) (newKeep hp) (RV.newLst (q1.append (rvs_ints ns)) hp tr)⟩
    · cases hg
  · rename_i ns ds
    split at hg
    · rename_i hl
      cases hg
      obtain ⟨a, xs, rfl, h1, q1⟩ := r2.lst'
      obtain ⟨b, rfl, h2⟩ := r1.scr
      rw [q1.len] at hl
      exact op_catL pins s σ H _ _ v u Q I rx ry ⟨b, a, _, xs, rfl, rfl, h2, .of h1, by rw [List.length_map]; exact big_ok hl, fun p hp => q _ _ (Ext.new hp) (newKeep hp) (RV.newLst ((rvs_ints ns).append q1) hp tr)⟩
    · cases hg
  · cases hg
theorem o_sub : OpR X (binaryOp .Sub) (rG (gOf X T) subG) := by
  intro pins s σ H vx vy v u Q I rx ry ⟨x, y, z, e, m, hg, tr, r1, r2, q⟩
  unfold subG at hg
  split at hg
  · rename_i i j
    cases hg
    cases r1.int
    cases r2.int
    exact op_sub pins s σ H _ _ v u Q I rx ry ⟨i, j, rfl, rfl, q _ _ Ext.refl (noKeep rfl) (.int _)⟩
  · cases hg
theorem o_mul : OpR X (binaryOp .Mult) (rG (gOf X T) mulG) := by
  intro pins s σ H vx vy v u Q I rx ry ⟨x, y, z, e, m, hg, tr, r1, r2, q⟩
  unfold mulG at hg
  split at hg
  · rename_i i j
    split at hg
    · rename_i hm
      cases hg
      cases r1.int
      cases r2.int
      refine op_mul pins s σ H _ _ v u Q I rx ry ⟨i, j, rfl, rfl, ?_, q _ _ Ext.refl (noKeep rfl) (.int _)⟩
      rcases Bool.or_eq_true_iff.mp hm with h | h
      · exact .inl (by have := of_decide_eq_true h; omega)
      · exact .inr (by have := of_decide_eq_true h; omega)
    · cases hg
  · rename_i ds k
    split at hg
    · rename_i hm
      cases hg
      obtain ⟨h1, h2, h3⟩ := hm
      cases r2.int
      obtain ⟨a, xs, rfl, t1, q1⟩ := r1.tup
      refine op_repA pins s σ H _ _ v u Q I rx ry ⟨a, k, xs, rfl, rfl, t1, h1, h2, by rw [← q1.len]; exact h3, fun z => ?_, fun _ p hp => q _ _ (Ext.new hp) (newKeep hp) (RV.newTup (q1.flat _) hp tr)⟩
      rcases z with z | z
      · subst z
        cases q1
        have e : (List.replicate k.toNat ([] : List D)).flatten = [] := by simp
        rw [e] at q
        exact q _ _ Ext.refl (noKeep rfl) (.tup t1 .nil)
      · subst z
        have e : (List.replicate (1 : Int).toNat ds).flatten = ds := by simp
        rw [e] at q
        exact q _ _ Ext.refl (noKeep rfl) (.tup t1 q1)
    · cases hg
  · rename_i ds k
    split at hg
    · rename_i hm
      cases hg
      obtain ⟨h1, h2, h3⟩ := hm
      cases r2.int
      obtain ⟨a, xs, rfl, t1, q1⟩ := r1.lst'
      have hb : xs.length * k.toNat ≤ sizeLine := by
        rw [← q1.len]
        exact big_ok (Nat.le_trans (Nat.mul_le_mul h3 (show k.toNat ≤ 1000 by omega)) (by decide))
      exact op_rep pins s σ H _ _ v u Q I rx ry ⟨a, k, xs, rfl, rfl, t1, by omega, by omega, hb, fun p hp => q _ _ (Ext.new hp) (newKeep hp) (RV.newLst (q1.flat _) hp tr)⟩
    · cases hg
  · cases hg
end
end Mir

/-! Mir4: more operators; comparisons; truth; subscripts and slices. -/
namespace Mir
open PySem PySem.Spec PyProof.Rows L2
section
variable {X : Cx} {T : List (Addr × Str)}
theorem wide_fdiv : OpR X (binaryOp .FloorDiv) (rI (fun _ j => 0 < j ∧ j.natAbs.log2 < 9000) fun i j => .int (i / j)) := op_fdivW
theorem o_fdiv : OpR X (binaryOp .FloorDiv) (rG (gOf X T) fdivG) := by
  intro pins s σ H vx vy v u Q I rx ry ⟨x, y, z, e, m, hg, tr, r1, r2, q⟩
  unfold fdivG at hg
  split at hg
  · split at hg
    · rename_i i j hc
      cases hg
      cases r1.int
      cases r2.int
      exact wide_fdiv pins s σ H _ _ v u Q I rx ry ⟨i, j, rfl, rfl, hc, q _ _ Ext.refl (noKeep rfl) (.int _)⟩
    · cases hg
  · cases hg
theorem o_mod : OpR X (binaryOp .Mod) (rG (gOf X T) modG) := by
  intro pins s σ H vx vy v u Q I rx ry ⟨x, y, z, e, m, hg, tr, r1, r2, q⟩
  unfold modG at hg
  split at hg
  · split at hg
    · rename_i i j hc
      cases hg
      cases r1.int
      cases r2.int
      exact op_mod pins s σ H _ _ v u Q I rx ry ⟨i, j, rfl, rfl, hc, q _ _ Ext.refl (noKeep rfl) (.int _)⟩
    · cases hg
  · cases hg
theorem o_pow : OpR X (binaryOp .Pow) (rG (gOf X T) powG) := by
  intro pins s σ H vx vy v u Q I rx ry ⟨x, y, z, e, m, hg, tr, r1, r2, q⟩
  unfold powG at hg
  split at hg
  · split at hg
    · rename_i i j hc
      cases hg
      cases r1.int
      cases r2.int
      exact op_pow pins s σ H _ _ v u Q I rx ry ⟨i, j, rfl, rfl, hc, q _ _ Ext.refl (noKeep rfl) (.int _)⟩
    · cases hg
  · cases hg
theorem o_neg : UnR X (unaryOp .USub) (rG1 (gOf X T) negG) := by
  intro pins s σ H vx v Q I rx ⟨x, z, e, m, hg, tr, r1, q⟩
  unfold negG at hg
  split at hg
  · rename_i i
    cases hg
    cases r1.int
    exact un_neg pins s σ H _ v Q I rx ⟨i, rfl, q _ _ Ext.refl (noKeep rfl) (.int _)⟩
  · cases hg
theorem o_lt : OpR X (compareOp .Lt) (rG (gOf X T) ltG) := by
  intro pins s σ H vx vy v u Q I rx ry ⟨x, y, z, e, m, hg, tr, r1, r2, q⟩
  unfold ltG at hg
  split at hg
  · rename_i i j
    cases hg
    cases r1.int
    cases r2.int
    exact op_lt pins s σ H _ _ v u Q I rx ry ⟨i, j, rfl, rfl, q _ _ Ext.refl (noKeep rfl) (.bl _)⟩
  · rename_i i j
    cases hg
    cases r1.str
    cases r2.str
    exact op_lt_str pins s σ H _ _ v u Q I rx ry ⟨i, j, rfl, rfl, q _ _ Ext.refl (noKeep rfl) (.bl _)⟩
  · cases hg
theorem o_le : OpR X (compareOp .LtE) (rG (gOf X T) leG) := by
  intro pins s σ H vx vy v u Q I rx ry ⟨x, y, z, e, m, hg, tr, r1, r2, q⟩
  unfold leG at hg
  split at hg
  · rename_i i j
    cases hg
    cases r1.int
    cases r2.int
    exact op_le pins s σ H _ _ v u Q I rx ry ⟨i, j, rfl, rfl, q _ _ Ext.refl (noKeep rfl) (.bl _)⟩
  · cases hg
theorem o_gt : OpR X (compareOp .Gt) (rG (gOf X T) gtG) := by
  intro pins s σ H vx vy v u Q I rx ry ⟨x, y, z, e, m, hg, tr, r1, r2, q⟩
  unfold gtG at hg
  split at hg
  · rename_i i j
    cases hg
    cases r1.int
    cases r2.int
    exact op_gt pins s σ H _ _ v u Q I rx ry ⟨i, j, rfl, rfl, q _ _ Ext.refl (noKeep rfl) (.bl _)⟩
  · cases hg
theorem o_ge : OpR X (compareOp .GtE) (rG (gOf X T) geG) := by
  intro pins s σ H vx vy v u Q I rx ry ⟨x, y, z, e, m, hg, tr, r1, r2, q⟩
  unfold geG at hg
  split at hg
  · rename_i i j
    cases hg
    cases r1.int
    cases r2.int
    exact op_ge pins s σ H _ _ v u Q I rx ry ⟨i, j, rfl, rfl, q _ _ Ext.refl (noKeep rfl) (.bl _)⟩
  · cases hg
theorem o_eq (hu : X.A.units + 64 < cLine) : OpR X (compareOp .Eq) (rG (gOf X T) eqG) := by
  intro pins s σ H vx vy v u Q I rx ry ⟨x, y, z, e, m, hg, tr, r1, r2, q⟩
  unfold eqG at hg
  split at hg
  · rename_i hs
    cases hg
    have hs := Bool.and_eq_true_iff.mp hs
    exact op_eqD hu pins s σ H _ _ v u Q I rx ry ⟨x.P, y.P, r1.dp hs.1, r2.dp hs.2, hs.1, hs.2, q _ _ Ext.refl (noKeep rfl) (.bl _)⟩
  · cases hg
theorem o_ne (hu : X.A.units + 64 < cLine) : OpR X (compareOp .NotEq) (rG (gOf X T) neG) := by
  intro pins s σ H vx vy v u Q I rx ry ⟨x, y, z, e, m, hg, tr, r1, r2, q⟩
  unfold neG at hg
  split at hg
  · rename_i hs
    cases hg
    have hs := Bool.and_eq_true_iff.mp hs
    exact op_neD hu pins s σ H _ _ v u Q I rx ry ⟨x.P, y.P, r1.dp hs.1, r2.dp hs.2, hs.1, hs.2, q _ _ Ext.refl (noKeep rfl) (.bl _)⟩
  · cases hg
theorem RT.isn {G : Gc} {e : List Addr} {H : Hp} {d : D} {v : V} (r : RT G e H d v) : decide (v = V.non) = isNon d := by
  cases r with
  | of r => cases r <;> rfl
  | lst h r => rfl
  | dic h q r => rfl
theorem is_bb : OpR X (compareOp .Is) (fun x y H Q => ∃ a b : Bool, x = .bl a ∧ y = .bl b ∧ Q (.bl (a == b)) H) := by
  intro pins s σ H x y v u Q I rx ry h
  obtain ⟨a, b, rfl, rfl, q⟩ := h
  cases (show v = Value.bool a from rx)
  cases (show u = Value.bool b from ry)
  by_cases e : a = b
  · subst e
    exact wpAny_is_self rfl ⟨.bl true, H, I, rfl, by simpa using q⟩
  · exact wpAny_is_other rfl (fun z => e (Value.bool.inj z)) ⟨.bl false, H, I, rfl, by rw [beq_eq_false_iff_ne.mpr e] at q; exact q⟩
theorem isnot_bb : OpR X (compareOp .IsNot) (fun x y H Q => ∃ a b : Bool, x = .bl a ∧ y = .bl b ∧ Q (.bl (!(a == b))) H) := by
  intro pins s σ H x y v u Q I rx ry h
  obtain ⟨a, b, rfl, rfl, q⟩ := h
  cases (show v = Value.bool a from rx)
  cases (show u = Value.bool b from ry)
  by_cases e : a = b
  · subst e
    exact wpAny_isNot_self rfl ⟨.bl false, H, I, rfl, by simpa using q⟩
  · exact wpAny_isNot_other rfl (fun z => e (Value.bool.inj z)) ⟨.bl true, H, I, rfl, by rw [beq_eq_false_iff_ne.mpr e] at q; exact q⟩
theorem o_is : OpR X (compareOp .Is) (rG (gOf X T) isG) := by
  intro pins s σ H vx vy v u Q I rx ry ⟨x, y, z, e, m, hg, tr, r1, r2, q⟩
  unfold isG at hg
  split at hg
  · cases hg
    cases r2.non
    exact op_isN pins s σ H _ _ v u Q I rx ry ⟨rfl, q _ _ Ext.refl (noKeep rfl) (by rw [r1.isn]; exact .bl _)⟩
  · cases hg
    cases r1.bl
    cases r2.bl
    exact is_bb pins s σ H _ _ v u Q I rx ry ⟨_, _, rfl, rfl, q _ _ Ext.refl (noKeep rfl) (.bl _)⟩
  · cases hg
theorem o_isnot : OpR X (compareOp .IsNot) (rG (gOf X T) isNotG) := by
  intro pins s σ H vx vy v u Q I rx ry ⟨x, y, z, e, m, hg, tr, r1, r2, q⟩
  unfold isNotG at hg
  split at hg
  · cases hg
    cases r2.non
    exact op_notN pins s σ H _ _ v u Q I rx ry ⟨rfl, q _ _ Ext.refl (noKeep rfl) (by rw [r1.isn]; exact .bl _)⟩
  · cases hg
    cases r1.bl
    cases r2.bl
    exact isnot_bb pins s σ H _ _ v u Q I rx ry ⟨_, _, rfl, rfl, q _ _ Ext.refl (noKeep rfl) (.bl _)⟩
  · cases hg

/-! ### keys -/
end
mutual
def toN : D → Option NestedKey
  | .non => some .none
  | .bl b => some (.num (if b = true then 1 else 0))
  | .int i => some (.num i)
  | .str x => some (.text x)
  | .tup xs => (toNs xs).map .tup
  | _ => none
def toNs : List D → Option (List NestedKey)
  | [] => some []
  | d :: ds => match toN d, toNs ds with
    | some k, some ks => some (k :: ks)
    | _, _ => none
end
section
variable {G : Gc} {e : List Addr} {H : Hp}
mutual
theorem RV.rn : ∀ {d : D} {v : V} {k : NestedKey}, RV G e H d v → toN d = some k → RN G H k v
  | _, _, _, .non, h => by cases h; exact .none
  | _, _, _, .bl b, h => by cases h; exact .bl b
  | _, _, _, .int i, h => by cases h; exact .num i
  | _, _, _, .str x, h => by cases h; exact .text x
  | _, _, _, .tup h r, q => by
    simp only [toN, Option.map_eq_some_iff] at q
    obtain ⟨ks, q, rfl⟩ := q
    exact .tup h (RVs.rns r q)
  | _, _, _, .lst _ _ _, h => by cases h
  | _, _, _, .dic _ _ _ _, h => by cases h
  | _, _, _, .scr _, h => by cases h
theorem RVs.rns : ∀ {ds : List D} {vs : List V} {ks : List NestedKey}, RVs G e H ds vs → toNs ds = some ks → RNs G H ks vs
  | _, _, _, .nil, h => by cases h; exact .nil
  | _, _, _, .cons r t, h => by
    unfold toNs at h
    split at h
    · rename_i k ks h1 h2
      cases h
      exact .cons (RV.rn r h1) (RVs.rns t h2)
    · cases h
end
theorem RT.rn {d : D} {v : V} {k : NestedKey} (r : RT G e H d v) (h : toN d = some k) : RN G H k v := by
  cases r with
  | of r => exact r.rn h
  | lst _ _ => cases h
  | dic _ _ _ => cases h
end
def dget : List NestedKey → List D → NestedKey → Option D
  | k :: ks, v :: vs, x => if k = x then some v else dget ks vs x
  | _, _, _ => none
def inG : D → D → Option D
  | x, .lst ys => if sh x && sh (.lst ys) then some (.bl (ys.any fun z => eqD z x)) else none
  | x, .tup ys => if sh x && sh (.tup ys) then some (.bl (ys.any fun z => eqD z x)) else none
  | .str x, .str y => match x.cps.toList with
    | [c] => some (.bl (decide (c ∈ y.cps.toList)))
    | _ => none
  | .int i, .dic false ks vs => some (.bl (decide (NestedKey.num i ∈ ks)))
  | .str x, .dic false ks vs => some (.bl (decide (NestedKey.text x ∈ ks)))
  | .tup xs, .dic true ks vs => match toN (.tup xs) with
    | some k => if k.depth ≤ 8 then some (.bl (decide (k ∈ ks))) else none
    | none => none
  | _, _ => none
def notInG : D → D → Option D
  | x, .lst ys => if sh x && sh (.lst ys) then some (.bl (!(ys.any fun z => eqD z x))) else none
  | x, .tup ys => if sh x && sh (.tup ys) then some (.bl (!(ys.any fun z => eqD z x))) else none
  | .str x, .str y => match x.cps.toList with
    | [c] => some (.bl (!decide (c ∈ y.cps.toList)))
    | _ => none
  | .int i, .dic false ks vs => some (.bl (!decide (NestedKey.num i ∈ ks)))
  | .str x, .dic false ks vs => some (.bl (!decide (NestedKey.text x ∈ ks)))
  | .tup xs, .dic true ks vs => match toN (.tup xs) with
    | some k => if k.depth ≤ 8 then some (.bl (!decide (k ∈ ks))) else none
    | none => none
  | _, _ => none
theorem Ps_any (x : D) : ∀ ys : List D, ((Ps ys).any fun z => PyData.eqv z x.P) = ys.any fun z => eqD z x
  | [] => rfl
  | y :: ys => by simp only [Ps, List.any_cons, Ps_any x ys]; rfl

section
variable {X : Cx} {T : List (Addr × Str)} {pins : List (Addr × Obj)} {s : Shared} {σ : St} {H : Hp}
mutual
theorem RN.nested (I : Inv X pins σ H s) : ∀ (k : NestedKey) (v : V) (u : Value), RN (gOf X T) H k v → RelV v u → NestedIs s.heap k u
  | .none, _, _, h, r => by cases h; cases r; exact .none
  | .num i, _, _, h, r => by
    cases h with
    | bl b => cases r; exact .bool rfl
    | num i => obtain ⟨t, rfl⟩ := r; exact .int i t
  | .text x, _, _, h, r => by cases h; obtain ⟨t, rfl⟩ := r; exact .text x t
  | .tup ks, _, _, h, r => by
    cases h with
    | tup h q =>
      cases r
      obtain ⟨its, rv, ⟨o, ho, hc, n, hd⟩, _⟩ := I.tuple h
      exact .tup ho hc hd (RNs.nested I ks _ _ q rv)
theorem RNs.nested (I : Inv X pins σ H s) : ∀ (ks : List NestedKey) (vs : List V) (us : List Value), RNs (gOf X T) H ks vs → Vals vs us → NestedAll s.heap ks us
  | [], _, _, h, r => by cases h; cases r; exact .nil
  | k :: ks, _, _, h, r => by
    cases h with
    | cons h1 h2 => cases r with
      | cons r1 r2 => exact .cons (RN.nested I k _ _ h1 r1) (RNs.nested I ks _ _ h2 r2)
end
abbrev PT3 : List (NestedKey × Addr × V) → List (NestedKey × Addr × Value) → Prop :=
  Paired (fun (p : NestedKey × Addr × V) (q : NestedKey × Addr × Value) => p.1 = q.1 ∧ p.2.1 = q.2.1 ∧ RelV p.2.2 q.2.2)
theorem dicN_at {a : Addr} {ts : List (NestedKey × Addr × V)} (I : Inv X pins σ H s) (h : H a = some (dicN X.prog X.w a ts)) (hk : ∀ t ∈ ts, RN (gOf X T) H t.1 (.ref t.2.1) ∧ t.1.depth ≤ 8) :
    ts.length ≤ sizeLine ∧ (a == sysModules) = false ∧ ∃ us, PT3 ts us ∧ s.heap.DictOfH (nestedKind X.prog X.w) a us := by
  obtain ⟨⟨h1, h2, us, h3, o, es, ep, h4, h5, h6, h7, h8⟩, _⟩ := (show ObjOk X.prog X.w H s.heap a (dicN X.prog X.w a ts) from I.hok a _ h)
  refine ⟨h1, h2, us, h3, o, es, ep, h4, h5, h6, h7, ?_, h8⟩
  have all : ∀ {l : List (NestedKey × Addr × V)} {m : List (NestedKey × Addr × Value)}, PT3 l m → (∀ t ∈ l, RN (gOf X T) H t.1 (.ref t.2.1) ∧ t.1.depth ≤ 8) → ∀ x ∈ m, (nestedKind X.prog X.w).is s.heap x.1 x.2.1 := by
    intro l m q
    induction q with
    | nil => intro _ x hx; cases hx
    | @cons p q ps qs hq t ih =>
      intro hl x hx
      rcases List.mem_cons.mp hx with e | hx
      · subst e
        obtain ⟨r, d⟩ := hl p List.mem_cons_self
        rw [← hq.1, ← hq.2.1]
        exact ⟨RN.nested I _ _ _ r rfl, d⟩
      · exact ih (fun t ht => hl t (List.mem_cons_of_mem _ ht)) x hx
  exact all h3 hk
/-- what a dict of tuple keys has at a key -/
theorem atKey_get {G : Gc} {e : List Addr} {H : Hp} (k : NestedKey) : ∀ {ts : List (NestedKey × Addr × V)} {us : List (NestedKey × Addr × Value)} {ds : List D}, PT3 ts us → RVs G e H ds (ts.map (·.2.2)) →
    (∀ d, dget (ts.map (·.1)) ds k = some d → ∃ p v, atKey us k = some p ∧ RelV v p.2 ∧ RV G e H d v) ∧ (atKey us k).isSome = decide (k ∈ ts.map (·.1))
  | _, _, ds, .nil, r => by
    cases r
    exact ⟨fun d h => (by simp [dget] at h), by simp [atKey]⟩
  | p :: ts, q :: us, ds, .cons h t, r => by
    cases r with
    | @cons d v ds vs r1 r2 =>
      obtain ⟨i1, i2⟩ := atKey_get k t r2
      by_cases e1 : p.1 = k
      · have e2 : q.1 = k := h.1.symm.trans e1
        refine ⟨fun d' hd => ?_, ?_⟩
        · simp only [List.map_cons, dget, e1, if_true, Option.some.injEq] at hd
          subst hd
          exact ⟨q.2, p.2.2, by simp [atKey, e2], h.2.2, r1⟩
        · simp [atKey, e2, e1]
      · have e2 : ¬ q.1 = k := fun z => e1 (h.1.trans z)
        have e3 : atKey (q :: us) k = atKey us k := by simp [atKey, List.find?_cons, e2]
        refine ⟨fun d' hd => ?_, ?_⟩
        · simp only [List.map_cons, dget, e1, if_false] at hd
          rw [e3]
          exact i1 d' hd
        · rw [e3, i2]
          have : ¬ k = p.1 := fun z => e1 z.symm
          simp [this]
theorem kN_inj {a b : Key} (h : kN a = kN b) : a = b := by
  cases a <;> cases b <;> cases h <;> rfl
theorem valV_get {G : Gc} {e : List Addr} {H : Hp} (k : Key) : ∀ {kk : List Key} {xs : List V} {ds : List D}, kk.length = xs.length → RVs G e H ds xs →
    (∀ d, dget (kk.map kN) ds (kN k) = some d → ∃ v, valV (kk.zip xs) k = some v ∧ RV G e H d v) ∧ (valV (kk.zip xs) k).isSome = decide (kN k ∈ kk.map kN)
  | [], _, ds, _, r => ⟨fun d h => (by simp [dget] at h), by simp [valV]⟩
  | j :: kk, _, ds, hl, r => by
    cases r with
    | nil => simp at hl
    | @cons d v ds vs r1 r2 =>
      obtain ⟨i1, i2⟩ := valV_get k (kk := kk) (by simpa using hl) r2
      by_cases e1 : j = k
      · subst e1
        refine ⟨fun d' hd => ?_, ?_⟩
        · simp only [List.map_cons, dget, if_true, Option.some.injEq] at hd
          subst hd
          exact ⟨v, by rw [List.zip_cons_cons, valV_pos rfl], r1⟩
        · rw [List.zip_cons_cons, valV_pos rfl]; simp
      · have e2 : ¬ kN j = kN k := fun z => e1 (kN_inj z)
        refine ⟨fun d' hd => ?_, ?_⟩
        · simp only [List.map_cons, dget, e2, if_false] at hd
          rw [List.zip_cons_cons, valV_neg e1]
          exact i1 d' hd
        · rw [List.zip_cons_cons, valV_neg e1, i2]
          have : ¬ kN k = kN j := fun z => e2 z.symm
          simp [this]

theorem o_in (hu : X.A.units + 65 < cLine) : OpR X (compareOp .In) (rG (gOf X T) inG) := by
  intro pins s σ H vx vy v u Q I rx ry ⟨x, y, z, e, m, hg, tr, r1, r2, q⟩
  unfold inG at hg
  split at hg
  · rename_i ys
    split at hg
    · rename_i hs
      cases hg
      have hs := Bool.and_eq_true_iff.mp hs
      exact op_inD hu pins s σ H _ _ v u Q I rx ry ⟨x.P, Ps ys, r1.dp hs.1, r2.dp hs.2, hs.1, hs.2, by rw [Ps_any]; exact q _ _ Ext.refl (noKeep rfl) (.bl _)⟩
    · cases hg
  · rename_i ys
    split at hg
    · rename_i hs
      cases hg
      have hs := Bool.and_eq_true_iff.mp hs
      obtain ⟨as, q1⟩ := Dp.reads I _ _ v (r1.dp hs.1) rx
      obtain ⟨bs, q2⟩ := Dp.reads I _ _ u (r2.dp hs.2) ry
      exact SeqAt.in_tuple_reads q2 q1 (SeqAt.canLay_of_shaped hs.2) (SeqAt.canLay_of_shaped hs.1) (room_in_shaped hs.1 hu) ⟨.bl _, H, I, rfl, by rw [Ps_any]; exact q _ _ Ext.refl (noKeep rfl) (.bl _)⟩
    · cases hg
  · rename_i x y
    split at hg
    · rename_i c hc
      cases hg
      cases r1.str
      cases r2.str
      refine op_in_sign pins s σ H _ _ v u Q I rx ry ⟨c, y, ?_, rfl, q _ _ Ext.refl (noKeep rfl) (.bl _)⟩
      rw [show x = ⟨#[c]⟩ from by cases x; simp only at hc; congr; simpa using congrArg List.toArray hc]
    · cases hg
  · rename_i i ks vs
    cases hg
    cases r1.int
    obtain ⟨a, o, xs, rfl, h1, h2, h3⟩ := r2.dic'
    cases h2 with
    | k kk xs hl =>
      cases ry
      exact d_in (by omega) I (DGet.k (k := .inl i) h1) rx fun s' I' => ⟨.bl _, H, I', rfl, by
        rw [(valV_get (.inl i) hl h3).2]
        exact q _ _ Ext.refl (noKeep rfl) (.bl _)⟩
  · rename_i i ks vs
    cases hg
    cases r1.str
    obtain ⟨a, o, xs, rfl, h1, h2, h3⟩ := r2.dic'
    cases h2 with
    | k kk xs hl =>
      cases ry
      exact d_in (by omega) I (DGet.k (k := .inr i) h1) rx fun s' I' => ⟨.bl _, H, I', rfl, by
        rw [(valV_get (.inr i) hl h3).2]
        exact q _ _ Ext.refl (noKeep rfl) (.bl _)⟩
  · rename_i ds ks vs
    split at hg
    · rename_i k hk
      split at hg
      · rename_i hd
        cases hg
        obtain ⟨a, o, xs, rfl, h1, h2, h3⟩ := r2.dic'
        obtain ⟨p, ps, rfl, t1, t2⟩ := r1.tup
        cases h2 with
        | n ts hts =>
          cases ry
          cases rx
          obtain ⟨z1, z2, us, z3, z4⟩ := dicN_at I h1 hts
          refine wpAny_in_heap (knd := nestedKind X.prog X.w) (k := k) (show X.A.units + 1 + 8 < cLine by omega) ⟨RN.nested I _ _ _ (r1.rn hk) rfl, hd⟩ z2 z4 ?_
          rw [(atKey_get k z3 h3).2]
          exact ⟨.bl _, H, I.tok _, rfl, q _ _ Ext.refl (noKeep rfl) (.bl _)⟩
      · cases hg
    · cases hg
  · cases hg
theorem o_notIn (hu : X.A.units + 65 < cLine) : OpR X (compareOp .NotIn) (rG (gOf X T) notInG) := by
  intro pins s σ H vx vy v u Q I rx ry ⟨x, y, z, e, m, hg, tr, r1, r2, q⟩
  unfold notInG at hg
  split at hg
  · rename_i ys
    split at hg
    · rename_i hs
      cases hg
      have hs := Bool.and_eq_true_iff.mp hs
      exact op_notInD hu pins s σ H _ _ v u Q I rx ry ⟨x.P, Ps ys, r1.dp hs.1, r2.dp hs.2, hs.1, hs.2, by rw [Ps_any]; exact q _ _ Ext.refl (noKeep rfl) (.bl _)⟩
    · cases hg
  · rename_i ys
    split at hg
    · rename_i hs
      cases hg
      have hs := Bool.and_eq_true_iff.mp hs
      obtain ⟨as, q1⟩ := Dp.reads I _ _ v (r1.dp hs.1) rx
      obtain ⟨bs, q2⟩ := Dp.reads I _ _ u (r2.dp hs.2) ry
      exact SeqAt.notIn_tuple_reads q2 q1 (SeqAt.canLay_of_shaped hs.2) (SeqAt.canLay_of_shaped hs.1) (room_in_shaped hs.1 hu) ⟨.bl _, H, I, rfl, by rw [Ps_any]; exact q _ _ Ext.refl (noKeep rfl) (.bl _)⟩
    · cases hg
  · rename_i x y
    split at hg
    · rename_i c hc
      cases hg
      cases r1.str
      cases r2.str
      refine op_notIn_sign pins s σ H _ _ v u Q I rx ry ⟨c, y, ?_, rfl, q _ _ Ext.refl (noKeep rfl) (.bl _)⟩
      rw [show x = ⟨#[c]⟩ from by cases x; simp only at hc; congr; simpa using congrArg List.toArray hc]
    · cases hg
  · rename_i i ks vs
    cases hg
    cases r1.int
    obtain ⟨a, o, xs, rfl, h1, h2, h3⟩ := r2.dic'
    cases h2 with
    | k kk xs hl =>
      cases ry
      exact d_notIn (by omega) I (DGet.k (k := .inl i) h1) rx fun s' I' => ⟨.bl _, H, I', rfl, by
        rw [(valV_get (.inl i) hl h3).2]
        exact q _ _ Ext.refl (noKeep rfl) (.bl _)⟩
  · rename_i i ks vs
    cases hg
    cases r1.str
    obtain ⟨a, o, xs, rfl, h1, h2, h3⟩ := r2.dic'
    cases h2 with
    | k kk xs hl =>
      cases ry
      exact d_notIn (by omega) I (DGet.k (k := .inr i) h1) rx fun s' I' => ⟨.bl _, H, I', rfl, by
        rw [(valV_get (.inr i) hl h3).2]
        exact q _ _ Ext.refl (noKeep rfl) (.bl _)⟩
  · rename_i ds ks vs
    split at hg
    · rename_i k hk
      split at hg
      · rename_i hd
        cases hg
        obtain ⟨a, o, xs, rfl, h1, h2, h3⟩ := r2.dic'
        obtain ⟨p, ps, rfl, t1, t2⟩ := r1.tup
        cases h2 with
        | n ts hts =>
          cases ry
          cases rx
          obtain ⟨z1, z2, us, z3, z4⟩ := dicN_at I h1 hts
          refine wpAny_notIn_heap (knd := nestedKind X.prog X.w) (k := k) (show X.A.units + 1 + 8 < cLine by omega) ⟨RN.nested I _ _ _ (r1.rn hk) rfl, hd⟩ z2 z4 ?_
          rw [(atKey_get k z3 h3).2]
          exact ⟨.bl _, H, I.tok _, rfl, q _ _ Ext.refl (noKeep rfl) (.bl _)⟩
      · cases hg
    · cases hg
  · cases hg
end
end Mir

/-! Mir5: subscripts, slices, and, or, not, if-else, chains. -/
namespace Mir
open PySem PySem.Spec PyProof.Rows L2

def ixG : D → D → Option D
  | .lst xs, .int i => atI xs i
  | .tup xs, .int i => atI xs i
  | .str z, .int i => if z.length ≤ big then (atI z.cps.toList i).map fun c => .str ⟨#[c]⟩ else none
  | .dic false ks vs, .int i => dget ks vs (.num i)
  | .dic false ks vs, .str x => dget ks vs (.text x)
  | .dic true ks vs, .tup xs => match toN (.tup xs) with
    | some k => if k.depth ≤ 8 then dget ks vs k else none
    | none => none
  | _, _ => none
theorem RVs.atI {G : Gc} {e : List Addr} {H : Hp} {ds : List D} {vs : List V} {i : Int} {d : D} (r : RVs G e H ds vs) (h : L2.atI ds i = some d) : ∃ v, L2.atI vs i = some v ∧ RV G e H d v := by
  unfold L2.atI at h ⊢
  rw [← r.len]
  cases q : ixN ds.length i with
  | none => rw [q] at h; cases h
  | some j =>
    rw [q] at h
    simp only [Option.bind_some] at h ⊢
    exact r.get h
section
variable {X : Cx} {T : List (Addr × Str)} {W : WX}
theorem o_ix (hu : X.A.units + 65 < cLine) : IxR X (rG (gOf X T) ixG) := by
  intro value slice pins s σ H vx vy v u Q I rx ry ⟨x, y, z, e, m, hg, tr, r1, r2, q⟩ hs
  unfold ixG at hg
  split at hg
  · rename_i xs i
    cases r2.int
    obtain ⟨a, vs, rfl, h1, h2⟩ := r1.lst'
    obtain ⟨w, h3, h4⟩ := h2.atI hg
    exact ix_list value slice pins s σ H _ _ v u Q I rx ry ⟨a, vs, i, w, rfl, rfl, .of h1, h3, q _ _ Ext.refl (noKeep rfl) h4⟩ hs
  · rename_i xs i
    cases r2.int
    obtain ⟨a, vs, rfl, h1, h2⟩ := r1.tup
    obtain ⟨w, h3, h4⟩ := h2.atI hg
    exact ix_tup value slice pins s σ H _ _ v u Q I rx ry ⟨a, vs, i, w, rfl, rfl, h1, h3, q _ _ Ext.refl (noKeep rfl) h4⟩ hs
  · rename_i xs i
    split at hg
    · rename_i hl
      cases r2.int
      cases r1.str
      simp only [Option.map_eq_some_iff] at hg
      obtain ⟨c, hc, rfl⟩ := hg
      exact ix_str value slice pins s σ H _ _ v u Q I rx ry ⟨xs, i, c, rfl, rfl, big_ok hl, hc, q _ _ Ext.refl (noKeep rfl) (.str _)⟩ hs
    · cases hg
  · rename_i ks ds i
    cases r2.int
    obtain ⟨a, o, xs, rfl, h1, h2, h3⟩ := r1.dic'
    cases h2 with
    | k kk xs hl =>
      cases rx
      obtain ⟨w, h4, h5⟩ := (valV_get (.inl i) hl h3).1 z hg
      have g : DGet H a (kV (.inl i)) (some w) := h4 ▸ DGet.k (k := .inl i) h1
      exact tail_any (dict_typeIs I g) PySem.F.slot_dict_getitem.lookup (d_getItem (by omega) I g ry fun w' s' I' r' => ⟨w, H, I', r', q _ _ Ext.refl (noKeep rfl) h5⟩) hs
  · rename_i ks ds i
    cases r2.str
    obtain ⟨a, o, xs, rfl, h1, h2, h3⟩ := r1.dic'
    cases h2 with
    | k kk xs hl =>
      cases rx
      obtain ⟨w, h4, h5⟩ := (valV_get (.inr i) hl h3).1 z hg
      have g : DGet H a (kV (.inr i)) (some w) := h4 ▸ DGet.k (k := .inr i) h1
      exact tail_any (dict_typeIs I g) PySem.F.slot_dict_getitem.lookup (d_getItem (by omega) I g ry fun w' s' I' r' => ⟨w, H, I', r', q _ _ Ext.refl (noKeep rfl) h5⟩) hs
  · rename_i ks ds xs
    split at hg
    · rename_i k hk
      split at hg
      · rename_i hd
        obtain ⟨a, o, xs, rfl, h1, h2, h3⟩ := r1.dic'
        obtain ⟨p, ps, rfl, t1, t2⟩ := r2.tup
        cases h2 with
        | n ts hts =>
          cases ry
          cases rx
          obtain ⟨z1, z2, us, z3, z4⟩ := dicN_at I h1 hts
          obtain ⟨p', w, h4, h5, h6⟩ := (atKey_get k z3 h3).1 z hg
          exact tail_any z4.typeIs PySem.F.slot_dict_getitem.lookup (wpAny_getItem_heap (knd := nestedKind X.prog X.w) (k := k) (show X.A.units + 1 + 8 < cLine by omega) ⟨RN.nested I _ _ _ (r2.rn hk) rfl, hd⟩ z4 h4
            ⟨w, H, I.tok _, h5, q _ _ Ext.refl (noKeep rfl) h6⟩) hs
      · cases hg
    · cases hg
  · cases hg
theorem e_ix {a b : Expr} {f1 f2 : ME} {pos : Pos} (hu : X.A.units + 65 < cLine) (ha : PE X a (tE (gOf X T) W f1)) (hb : PE X b (tE (gOf X T) W f2)) (hs : PlainIx b := by intro _ _; rfl) : PE X (.Subscript a b pos) (tE (gOf X T) W (op2M ixG f1 f2)) :=
  pe_mono (pe_ix (o_ix hu) ha hb hs) fun σ H Q h => op2_red (a := fun _ _ _ => True) (b := fun _ _ _ => True) h

/-! ### slices -/
def cutL {α : Type} (xs : List α) (lo hi : Option Int) : List α := (xs.drop (HT.sIx xs.length 0 lo)).take (HT.sIx xs.length xs.length hi - HT.sIx xs.length 0 lo)
def slG : D → Option Int → Option Int → Option D
  | .lst xs, lo, hi => some (.lst (cutL xs lo hi))
  | .tup xs, lo, hi => some (.tup (cutL xs lo hi))
  | .str z, lo, hi => if z.length ≤ big then some (.str (cutS z lo hi)) else none
  | _, _, _ => none
abbrev MO := Env → Sto → O (Option Int)
def noP : MO := fun _ S => .ok none S
def someP (f : ME) : MO := fun ρ S => (f ρ S).bind fun u S1 => match u with
  | .d (.int i) => .ok (some i) S1
  | _ => .un
def slM (f : ME) (lo hi : MO) : ME := fun ρ S => (f ρ S).bind fun u S1 => (lo ρ S1).bind fun l S2 => (hi ρ S2).bind fun h S3 =>
  match rd S3 u with
  | some x => match slG x l h with
    | some z => .ok (.d z) S3
    | none => .un
  | none => .un
def tO (G : Gc) (W : WX) (f : MO) : TO := fun σ H Q => ∃ x m ρ S, Rp G x m H ρ S σ ∧ Post G W x m σ H (f ρ S) fun o _ _ H' => Q o H'
theorem po_mono {e : Option Expr} {t t' : TO} (h : PO X e t) (q : ∀ σ H Q, t' σ H Q → t σ H Q) : PO X e t' := ⟨fun pins s σ H Q I w => h.run pins s σ H Q I (q σ H Q w)⟩
theorem p_none : PO X none (tO (gOf X T) W noP) := po_mono po_none fun σ H Q h => by
  obtain ⟨x, m, ρ, S, p, h⟩ := h
  exact h m H Ext.refl p.sto
theorem p_some {e : Expr} {f : ME} (h : PE X e (tE (gOf X T) W f)) : PO X (some e) (tO (gOf X T) W (someP f)) := po_mono (po_some h) fun σ H Q h => by
  obtain ⟨x, m, ρ, S, p, h⟩ := h
  refine ⟨x, m, ρ, S, p, (Post.bind h).mono fun u S1 m1 H1 E1 R1 ⟨_, _, h1⟩ v rv => ?_⟩
  split at h1
  · cases rv with
    | d r => cases r; exact ⟨_, rfl, h1 m1 H1 Ext.refl R1⟩
  · exact h1.elim
theorem RVs.cut {G : Gc} {e : List Addr} {H : Hp} {ds : List D} {vs : List V} (r : RVs G e H ds vs) (lo hi : Option Int) : RVs G e H (cutL ds lo hi) (cutV vs lo hi) := by
  unfold cutL cutV
  rw [r.len]
  exact (r.drop _).take _
theorem cut_whole {α : Type} {xs : List α} {lo hi : Option Int} (h : HT.sIx xs.length 0 lo = 0 ∧ HT.sIx xs.length xs.length hi = xs.length) : cutL xs lo hi = xs := by
  unfold cutL
  rw [h.1, h.2]
  simp
def rSl (G : Gc) : V → Option Int → Option Int → Hp → VK → Prop := fun vx lo hi H Q => ∃ x z e m, slG x lo hi = some z ∧ (∀ b ∈ e, ∃ o, H b = some o) ∧ RT G e H x vx ∧
  ∀ H' w, Ext G m H m H' → (∀ a ∈ m, H a ≠ none → H' a = H a) → RV G e H' z w → Q w H'
theorem o_sl : SlR X (rSl (gOf X T)) := by
  intro pins s σ H vx v vl vu lo hi sl Q I rx hs pl pu ⟨x, z, e, m, hg, tr, r1, q⟩
  unfold slG at hg
  split at hg
  · cases hg
    obtain ⟨a, xs, rfl, h1, h2⟩ := r1.lst'
    exact sl_list pins s σ H _ v vl vu _ _ sl Q I rx hs pl pu ⟨a, xs, rfl, .of h1, fun p np => q _ _ (Ext.new np) (newKeep np) (RV.newLst (h2.cut _ _) np tr)⟩
  · cases hg
    obtain ⟨a, xs, rfl, h1, h2⟩ := r1.tup
    refine sl_tupA pins s σ H _ v vl vu _ _ sl Q I rx hs pl pu ⟨a, xs, rfl, h1, fun hw => q _ _ Ext.refl (noKeep rfl) ?_, fun _ p np => q _ _ (Ext.new np) (newKeep np) (RV.newTup (h2.cut _ _) np tr)⟩
    rw [← h2.len] at hw
    rw [cut_whole hw]
    exact .tup h1 h2
  · split at hg
    · rename_i hl
      cases hg
      cases r1.str
      exact sl_str pins s σ H _ v vl vu _ _ sl Q I rx hs pl pu ⟨_, rfl, big_ok hl, q _ _ Ext.refl (noKeep rfl) (.str _)⟩
    · cases hg
  · cases hg
theorem e_sl {a : Expr} {lo hi : Option Expr} {f : ME} {fl fh : MO} {pos p2 : Pos} (ha : PE X a (tE (gOf X T) W f)) (hl : PO X lo (tO (gOf X T) W fl)) (hh : PO X hi (tO (gOf X T) W fh)) : PE X (.Subscript a (.Slice lo hi none p2) pos) (tE (gOf X T) W (slM f fl fh)) :=
  pe_mono (pe_slice (o_sl (T := T)) ha hl hh) fun σ H Q h => by
    obtain ⟨x, m, ρ, S, p, h⟩ := h
    refine ⟨x, m, ρ, S, p, (Post.bind h).mono fun u S1 m1 H1 E1 R1 ⟨_, _, h1⟩ v rv => ?_⟩
    refine ⟨x, m1, ρ, S1, p.ext E1 R1, (Post.bind h1).mono fun l S2 m2 H2 E2 R2 ⟨_, _, h2⟩ => ?_⟩
    have p2 := (p.ext E1 R1).ext E2 R2
    refine ⟨x, m2, ρ, S2, p2, (Post.bind h2).mono fun r S3 m3 H3 E3 R3 ⟨_, _, h3⟩ => ?_⟩
    have p3 := p2.ext E3 R3
    split at h3
    · rename_i dx q1
      split at h3
      · rename_i z q3
        exact ⟨dx, z, x ++ m3, m3, q3, p3.trk, ((rv.ext E2).ext E3).rt R3 q1, fun H' w' E4 hs r => h3 m3 H' E4 (R3.stay E4 fun a ha => hs a ha (by obtain ⟨o, q⟩ := R3.live ha; rw [q]; simp)) w' (.d r)⟩
      · exact h3.elim
    · exact h3.elim

/-! ### and, or, not -/
variable {a b c : Expr} {rest : List Expr} {f g k : ME} {tf tg : MT} {pos : Pos}
def andT (f g : MT) : MT := fun ρ S => (f ρ S).bind fun b S1 => if b = true then g ρ S1 else .ok false S1
def orT (f g : MT) : MT := fun ρ S => (f ρ S).bind fun b S1 => if b = true then .ok true S1 else g ρ S1
def notT (f : MT) : MT := fun ρ S => (f ρ S).bind fun b S1 => .ok (!b) S1
def andM (f g : ME) : ME := fun ρ S => (f ρ S).bind fun u S1 => match u with
  | .d (.bl true) => g ρ S1
  | .d (.bl false) => .ok (.d (.bl false)) S1
  | _ => .un
def orM (f g : ME) : ME := fun ρ S => (f ρ S).bind fun u S1 => match u with
  | .d (.bl true) => .ok (.d (.bl true)) S1
  | .d (.bl false) => g ρ S1
  | _ => .un
def notM (f : ME) : ME := fun ρ S => (f ρ S).bind fun u S1 => match u with
  | .d (.bl b) => .ok (.d (.bl (!b))) S1
  | _ => .un
def iteM (t : MT) (f g : ME) : ME := fun ρ S => (t ρ S).bind fun b S1 => if b = true then f ρ S1 else g ρ S1
theorem pw_mono {e : Expr} {t t' : TT} (h : PW X e t) (q : ∀ σ H Q, t' σ H Q → t σ H Q) : PW X e t' := ⟨fun wh pins s σ H Q I w => h.run wh pins s σ H Q I (q σ H Q w)⟩
theorem w_and1 (ha : PT X a (tT (gOf X T) W tf)) : PW X (.BoolOp .And [a] pos) (tT (gOf X T) W tf) := pw_and1 ha
theorem w_or1 (ha : PT X a (tT (gOf X T) W tf)) : PW X (.BoolOp .Or [a] pos) (tT (gOf X T) W tf) := pw_or1 ha
theorem w_and (ha : PT X a (tT (gOf X T) W tf)) (hb : PW X (.BoolOp .And (b :: rest) pos) (tT (gOf X T) W tg)) : PW X (.BoolOp .And (a :: b :: rest) pos) (tT (gOf X T) W (andT tf tg)) := pw_mono (pw_and ha hb) fun σ H Q h => by
  obtain ⟨x, m, ρ, S, p, h⟩ := h
  refine ⟨x, m, ρ, S, p, (Post.bind h).mono fun u S1 m1 H1 E1 R1 ⟨_, _, h1⟩ => ?_⟩
  cases u with
  | true => exact iteT ⟨x, m1, ρ, S1, p.ext E1 R1, by rw [if_pos rfl] at h1; exact h1⟩
  | false => exact iteF (by rw [if_neg Bool.false_ne_true] at h1; exact h1 m1 H1 Ext.refl R1)
theorem w_or (ha : PT X a (tT (gOf X T) W tf)) (hb : PW X (.BoolOp .Or (b :: rest) pos) (tT (gOf X T) W tg)) : PW X (.BoolOp .Or (a :: b :: rest) pos) (tT (gOf X T) W (orT tf tg)) := pw_mono (pw_or ha hb) fun σ H Q h => by
  obtain ⟨x, m, ρ, S, p, h⟩ := h
  refine ⟨x, m, ρ, S, p, (Post.bind h).mono fun u S1 m1 H1 E1 R1 ⟨_, _, h1⟩ => ?_⟩
  cases u with
  | true => exact iteT (by rw [if_pos rfl] at h1; exact h1 m1 H1 Ext.refl R1)
  | false => exact iteF ⟨x, m1, ρ, S1, p.ext E1 R1, by rw [if_neg Bool.false_ne_true] at h1; exact h1⟩
theorem t_not (ha : PT X a (tT (gOf X T) W tf)) : PT X (.UnaryOp .Not a pos) (tT (gOf X T) W (notT tf)) := pt_mono (pt_not ha) fun σ H Q h => by
  obtain ⟨x, m, ρ, S, p, h⟩ := h
  exact ⟨x, m, ρ, S, p, (Post.bind h).mono fun u S1 m1 H1 E1 R1 ⟨_, _, h1⟩ => h1 m1 H1 Ext.refl R1⟩
theorem e_one {op} (h : PE X a (tE (gOf X T) W f)) : PE X (.BoolOp op [a] pos) (tE (gOf X T) W f) := pe_one h
theorem RU.bl {G : Gc} {e m : List Addr} {H : Hp} {b : Bool} {v : V} (r : RU G e m H (.d (.bl b)) v) : v = .bl b := by
  cases r with
  | d r => cases r; rfl
theorem e_and (ha : PE X a (tE (gOf X T) W f)) (hb : PE X (.BoolOp .And (b :: rest) pos) (tE (gOf X T) W g)) : PE X (.BoolOp .And (a :: b :: rest) pos) (tE (gOf X T) W (andM f g)) := pe_mono (pe_and ha hb) fun σ H Q h => by
  obtain ⟨x, m, ρ, S, p, h⟩ := h
  refine ⟨x, m, ρ, S, p, (Post.bind h).mono fun u S1 m1 H1 E1 R1 ⟨_, _, h1⟩ v rv => ?_⟩
  split at h1
  · exact ⟨true, rv.bl, iteT ⟨x, m1, ρ, S1, p.ext E1 R1, h1⟩⟩
  · exact ⟨false, rv.bl, iteF (h1 m1 H1 Ext.refl R1 _ (.d (.bl false)))⟩
  · exact h1.elim
theorem e_or (ha : PE X a (tE (gOf X T) W f)) (hb : PE X (.BoolOp .Or (b :: rest) pos) (tE (gOf X T) W g)) : PE X (.BoolOp .Or (a :: b :: rest) pos) (tE (gOf X T) W (orM f g)) := pe_mono (pe_or ha hb) fun σ H Q h => by
  obtain ⟨x, m, ρ, S, p, h⟩ := h
  refine ⟨x, m, ρ, S, p, (Post.bind h).mono fun u S1 m1 H1 E1 R1 ⟨_, _, h1⟩ v rv => ?_⟩
  split at h1
  · exact ⟨true, rv.bl, iteT (h1 m1 H1 Ext.refl R1 _ (.d (.bl true)))⟩
  · exact ⟨false, rv.bl, iteF ⟨x, m1, ρ, S1, p.ext E1 R1, h1⟩⟩
  · exact h1.elim
theorem e_not (ha : PE X a (tE (gOf X T) W f)) : PE X (.UnaryOp .Not a pos) (tE (gOf X T) W (notM f)) := pe_mono (pe_not ha) fun σ H Q h => by
  obtain ⟨x, m, ρ, S, p, h⟩ := h
  refine ⟨x, m, ρ, S, p, (Post.bind h).mono fun u S1 m1 H1 E1 R1 ⟨_, _, h1⟩ v rv => ?_⟩
  split at h1
  · exact ⟨_, rv.bl, h1 m1 H1 Ext.refl R1 _ (.d (.bl _))⟩
  · exact h1.elim
theorem e_if (hc : PT X c (tT (gOf X T) W tf)) (ha : PE X a (tE (gOf X T) W f)) (hb : PE X b (tE (gOf X T) W g)) : PE X (.IfExp c a b pos) (tE (gOf X T) W (iteM tf f g)) := pe_mono (pe_ifExp hc ha hb) fun σ H Q h => by
  obtain ⟨x, m, ρ, S, p, h⟩ := h
  refine ⟨x, m, ρ, S, p, (Post.bind h).mono fun u S1 m1 H1 E1 R1 ⟨_, _, h1⟩ => ?_⟩
  cases u with
  | true => exact iteT ⟨x, m1, ρ, S1, p.ext E1 R1, by rw [if_pos rfl] at h1; exact h1⟩
  | false => exact iteF ⟨x, m1, ρ, S1, p.ext E1 R1, by rw [if_neg Bool.false_ne_true] at h1; exact h1⟩
/-- a < b < c -/
def chM (o1 o2 : D → D → Option D) (f g k : ME) : ME := fun ρ S => (f ρ S).bind fun u S1 => (g ρ S1).bind fun w S2 => match rd S2 u, rd S2 w with
  | some x, some y => match o1 x y with
    | some (.bl true) => (k ρ S2).bind fun w' S3 => match rd S3 w, rd S3 w' with
      | some y', some z => match o2 y' z with
        | some t => .ok (.d t) S3
        | none => .un
      | _, _ => .un
    | some (.bl false) => .ok (.d (.bl false)) S2
    | _ => .un
  | _, _ => .un
theorem ch_red {o1 o2 : D → D → Option D} {σ : St} {H : Hp} {Q : VK} (h : tE (gOf X T) W (chM o1 o2 f g k) σ H Q) : tChain (rG (gOf X T) o1) (rG (gOf X T) o2) (tE (gOf X T) W f) (tE (gOf X T) W g) (tE (gOf X T) W k) σ H Q := by
  obtain ⟨x, m, ρ, S, p, h⟩ := h
  refine ⟨x, m, ρ, S, p, (Post.bind h).mono fun u S1 m1 H1 E1 R1 ⟨_, _, h1⟩ v rv => ?_⟩
  refine ⟨x, m1, ρ, S1, p.ext E1 R1, (Post.bind h1).mono fun w S2 m2 H2 E2 R2 ⟨_, _, h2⟩ v' rv' => ?_⟩
  have p2 := (p.ext E1 R1).ext E2 R2
  split at h2
  · rename_i dx dy q1 q2
    have go : ∀ H' (E3 : Ext (gOf X T) m2 H2 m2 H'), (∀ a ∈ m2, H2 a ≠ none → H' a = H2 a) → RS (gOf X T) (x ++ m2) m2 H' S2 := fun H' E3 hs => R2.stay E3 fun a ha => hs a ha (by obtain ⟨o, q⟩ := R2.live ha; rw [q]; simp)
    split at h2
    · rename_i q3
      refine ⟨dx, dy, _, x ++ m2, m2, q3, p2.trk, (rv.ext E2).rt R2 q1, rv'.rt R2 q2, fun H' w' E3 hs r => ?_⟩
      cases r
      have R3 := go H' E3 hs
      have p3 := p2.ext E3 R3
      refine ⟨true, rfl, iteT ⟨x, m2, ρ, S2, p3, (Post.bind (Post.shift E3 h2)).mono fun t S4 m4 H4 E4 R4 ⟨_, _, h4⟩ v'' rv'' => ?_⟩⟩
      have p4 := p3.ext E4 R4
      split at h4
      · rename_i dy' dz q4 q5
        split at h4
        · rename_i z q6
          exact ⟨dy', dz, z, x ++ m4, m4, q6, p4.trk, ((rv'.ext E3).ext E4).rt R4 q4, rv''.rt R4 q5, fun H5 w5 E5 hs5 r5 => h4 m4 H5 E5 (R4.stay E5 fun a ha => hs5 a ha (by obtain ⟨o, q⟩ := R4.live ha; rw [q]; simp)) w5 (.d r5)⟩
        · exact h4.elim
      · exact h4.elim
    · rename_i q3
      refine ⟨dx, dy, _, x ++ m2, m2, q3, p2.trk, (rv.ext E2).rt R2 q1, rv'.rt R2 q2, fun H' w' E3 hs r => ?_⟩
      cases r
      exact ⟨false, rfl, iteF (h2 m2 H' E3 (go H' E3 hs) _ (.d (.bl false)))⟩
    · exact h2.elim
  · exact h2.elim
theorem e_ch {op op' : CmpOp} {o1 o2 : D → D → Option D} (ho : OpR X (compareOp op) (rG (gOf X T) o1)) (ho' : OpR X (compareOp op') (rG (gOf X T) o2)) (ha : PE X a (tE (gOf X T) W f)) (hb : PE X b (tE (gOf X T) W g)) (hc : PE X c (tE (gOf X T) W k))
    (hm : lastMarks [op, op'] [b, c] = false := by with_unfolding_all rfl) : PE X (.Compare a [op, op'] [b, c] pos) (tE (gOf X T) W (chM o1 o2 f g k)) := pe_mono (pe_chain ho ho' ha hb hc hm) fun σ H Q h => ch_red h
theorem t_ch {op op' : CmpOp} {o1 o2 : D → D → Option D} (ho : OpR X (compareOp op) (rG (gOf X T) o1)) (ho' : OpR X (compareOp op') (rG (gOf X T) o2)) (ha : PE X a (tE (gOf X T) W f)) (hb : PE X b (tE (gOf X T) W g)) (hc : PE X c (tE (gOf X T) W k))
    (hm : lastMarks [op, op'] [b, c] = false := by with_unfolding_all rfl) : PT X (.Compare a [op, op'] [b, c] pos) (tT (gOf X T) W (tstM (chM o1 o2 f g k))) := pt_mono (pt_chain ho ho' ha hb hc hm) fun σ H Q h => ch_red (tst_red (t := fun _ _ _ => True) h)
end
end Mir

/-! Mir6: defs: what is promised of them, how they are called, how a body's mirror gives the promise. -/
namespace Mir
open PySem PySem.Spec PyProof.Rows L2

/-- what a def makes of its arguments -/
inductive R where
  | ok (d : D) | ex (e : Exn) | un
  deriving Inhabited
/-- .. and of one cell -/
inductive R1 where
  | ok (d : D) (c : Cell) | ex (e : Exn) (c : Cell) | un
  deriving Inhabited
/-- .. a new cell -/
inductive RNw where
  | ok (c : Cell) | ex (e : Exn) | un
  deriving Inhabited

def PR (G : Gc) (x m : List Addr) (H : Hp) (r : R) (Q : VK) (E : XK) : Prop := match r with
  | .ok d => ∀ H' v, Ext G m H m H' → RV G x H' d v → Q v H'
  | .ex e => ∀ H' cls d, Ext G m H m H' → RX G x H' e cls d → E cls d H'
  | .un => False
def sp0 (G : Gc) (n : Nat) (F : List D → R) : Sp := fun vs H Q E => vs.length = n ∧ ∃ x ds, (∀ b ∈ x, Nt H b) ∧ LamX.Tabs G.T H ∧ RVs G x H ds vs ∧ PR G x [] H (F ds) Q E
def sp1 (G : Gc) (n p : Nat) (F : List D → Cell → R1) : Sp := fun vs H Q E => vs.length = n ∧ ∃ x a c o ds, (∀ b ∈ x, Nt H b) ∧ LamX.Tabs G.T H ∧ a ∈ x ∧ vs[p]? = some (.ref a) ∧ H a = some o ∧ RC G x H a c o ∧ RVs G x H ds (vs.eraseIdx p) ∧
  match F ds c with
  | .ok d c' => ∀ H' v o', Ext G [a] H [a] H' → H' a = some o' → RC G x H' a c' o' → RV G x H' d v → Q v H'
  | .ex e c' => ∀ H' o' cls d, Ext G [a] H [a] H' → H' a = some o' → RC G x H' a c' o' → RX G x H' e cls d → E cls d H'
  | .un => False
def spN (G : Gc) (n : Nat) (F : List D → RNw) : Sp := fun vs H Q E => vs.length = n ∧ ∃ x ds, (∀ b ∈ x, Nt H b) ∧ LamX.Tabs G.T H ∧ RVs G x H ds vs ∧
  match F ds with
  | .ok c => ∀ H' p o, Ext G [] H [p] H' → H' p = some o → RC G (x ++ [p]) H' p c o → Q (.ref p) H'
  | .ex e => ∀ H' cls d, Ext G [] H [] H' → RX G x H' e cls d → E cls d H'
  | .un => False

/-- a def that is known by its name -/
structure Kn (G : Gc) (base : Heap) (k : Nat) (x : Str) (sp : Sp) : Prop where
  ex : ∃ f fd ps, FnOk G.P G.w G.K G.mg base (L2.CX G.P G.w) k f fd ps sp ∧ G.mg x = some (.ref f) ∧ PySem.W.keepIn G.K (.ref f) = true ∧ Binds G.K fd ps []
theorem Kn.mono {G : Gc} {base : Heap} {j k : Nat} {x : Str} {sp : Sp} (h : Kn G base j x sp) (hk : j ≤ k) : Kn G base k x sp := by
  obtain ⟨f, fd, ps, a, b, c, d⟩ := h.ex
  exact ⟨f, fd, ps, a.mono hk, b, c, d⟩

theorem nd_ix : ∀ {N : List Addr}, N.Nodup → ∀ {i j : Nat} {x : Addr}, N[i]? = some x → N[j]? = some x → i = j
  | [], _, _, _, _, h, _ => by simp at h
  | a :: N, hn, 0, 0, _, _, _ => rfl
  | a :: N, hn, 0, j + 1, x, h, h' => by
    simp at h h'
    subst h
    exact absurd (List.mem_of_getElem? h') (List.nodup_cons.mp hn).1
  | a :: N, hn, i + 1, 0, x, h, h' => by
    simp at h h'
    subst h'
    exact absurd (List.mem_of_getElem? h) (List.nodup_cons.mp hn).1
  | a :: N, hn, i + 1, j + 1, x, h, h' => by
    simp at h h'
    rw [nd_ix (List.nodup_cons.mp hn).2 h h']
/-! ### weakening -/
section
variable {G : Gc} {e e' x m m' : List Addr} {H H' : Hp}
theorem keep_sub (h : ∀ a, a ∈ e' → a ∈ e) : Keep G e H e' H where
  tup := fun _ _ q => q
  lst := fun _ _ q => q
  lsk := fun _ _ q n => ⟨q, fun z => n (h _ z)⟩
  dic := fun _ _ _ _ _ q n r => ⟨q, fun z => n (h _ z), r⟩
theorem Ext.of_nil (E : Ext G [] H [] H') : Ext G m H m H' :=
  ⟨fun b o h _ t => E.keep b o h (fun z => by cases z) t, E.tups, E.frzs, E.owns, E.live, ⟨[], by simp, fun _ z => by cases z⟩, E.tab⟩
theorem Ext.of_one {a : Addr} (E : Ext G [a] H [a] H') (ha : a ∈ m) : Ext G m H m H' :=
  ⟨fun b o h hb t => E.keep b o h (fun z => hb (by have : b = a := by simpa using z
                                                   rw [this]; exact ha)) t, E.tups, E.frzs, E.owns, E.live, ⟨[], by simp, fun _ z => by cases z⟩, E.tab⟩
theorem Ext.of_new {a : Addr} (E : Ext G [] H [a] H') (hn : ¬ Nt H a) : Ext G m H (m ++ [a]) H' :=
  ⟨fun b o h _ t => E.keep b o h (fun z => by cases z) t, E.tups, E.frzs, E.owns, E.live, ⟨[a], rfl, fun b hb => by
    have e1 : b = a := by simpa using hb
    rw [e1]
    exact hn⟩, E.tab⟩
/-- what was made is forgotten -/
theorem Ext.drop (E : Ext G m H m' H') : Ext G m H m H' := ⟨E.keep, E.tups, E.frzs, E.owns, E.live, ⟨[], by simp, fun _ z => by cases z⟩, E.tab⟩
theorem RC.notbl {a : Addr} {c : Cell} {o : HO} (r : RC G e H a c o) : ∀ ps, o ≠ .tbl ps := by
  cases r with
  | lst _ => intro ps z; cases z
  | dic q _ => exact q.notbl
  | ins _ _ _ => intro ps z; cases z
theorem RC.keep {a : Addr} {c : Cell} {o : HO} (k : Keep G e H e' H') (ho : ∀ b y, H b = some (.own y) → H' b = some (.own y)) (r : RC G e H a c o) : RC G e' H' a c o := by
  cases r with
  | lst q => exact .lst (q.keep k)
  | dic q1 q => exact .dic (q1.ext fun _ _ z => k.tup _ _ z) (q.keep k)
  | ins g1 g2 q => exact .ins g1 (ho _ _ g2) (q.keep k)
theorem RS.stay0 {S : Sto} (r : RS G (x ++ m) m H S) (E : Ext G [] H [] H') : RS G (x ++ m) m H' S :=
  r.stay E.of_nil fun a ha => by
    obtain ⟨i, hi⟩ := List.getElem?_of_mem ha
    have hl : i < S.length := by rw [← r.len]; exact (List.getElem?_eq_some_iff.mp hi).1
    obtain ⟨o, h1, h2⟩ := r.at' i a _ hi (List.getElem?_eq_getElem hl)
    rw [h1]
    exact E.keep _ _ h1 (fun z => by cases z) h2.notbl
/-- one cell has changed -/
theorem RS.one {S : Sto} {i : Nat} {a : Addr} {c' : Cell} {o' : HO} (r : RS G (x ++ m) m H S) (E : Ext G [a] H [a] H') (hi : m[i]? = some a) (ho : H' a = some o') (hc : RC G (x ++ m) H' a c' o') : RS G (x ++ m) m H' (S.set i c') := by
  have E' : Ext G m H m H' := E.of_one (List.mem_of_getElem? hi)
  refine ⟨by rw [List.length_set]; exact r.len, r.nd, r.ins, fun j b c h1 h2 => ?_⟩
  by_cases hj : i = j
  · subst hj
    rw [hi] at h1; cases h1
    have hl : i < S.length := by
      have := (List.getElem?_eq_some_iff.mp h2).1
      rw [List.length_set] at this; exact this
    rw [List.getElem?_set_self hl] at h2
    cases h2
    exact ⟨o', ho, hc⟩
  · rw [List.getElem?_set_ne hj] at h2
    obtain ⟨o, q1, q2⟩ := r.at' j b c h1 h2
    have hb : b ≠ a := fun z => hj (nd_ix r.nd hi (by rw [← z]; exact h1))
    exact ⟨o, E.keep _ _ q1 (fun z => hb (by simpa using z)) q2.notbl, q2.ext E'⟩
end

/-! ### the call of a def -/
def callM (F : List D → R) (fs : List ME) : ME := fun ρ S => (argsM fs ρ S).bind fun us S1 => match pures us with
  | some ds => match F ds with
    | .ok d => .ok (.d d) S1
    | .ex e => .ex e S1
    | .un => .un
  | none => .un
def callC (p : Nat) (F : List D → Cell → R1) (fs : List ME) : ME := fun ρ S => (argsM fs ρ S).bind fun us S1 => match us[p]?, pures (us.eraseIdx p) with
  | some (.c i), some ds => match S1[i]? with
    | some c => match F ds c with
      | .ok d c' => .ok (.d d) (S1.set i c')
      | .ex e c' => .ex e (S1.set i c')
      | .un => .un
    | none => .un
  | _, _ => .un
def callN (F : List D → RNw) (fs : List ME) : ME := fun ρ S => (argsM fs ρ S).bind fun us S1 => match pures us with
  | some ds => match F ds with
    | .ok c => .ok (.c S1.length) (S1 ++ [c])
    | .ex e => .ex e S1
    | .un => .un
  | none => .un
theorem RUs.get {G : Gc} {e m : List Addr} {H : Hp} : ∀ {ds : List U} {vs : List V} {i : Nat} {d : U}, RUs G e m H ds vs → ds[i]? = some d → ∃ v, vs[i]? = some v ∧ RU G e m H d v
  | _, _, _, _, .nil, h => by simp at h
  | _, _, 0, _, .cons r _, h => by simp at h; subst h; exact ⟨_, rfl, r⟩
  | _, _, i + 1, _, .cons _ t, h => by
    obtain ⟨v, h1, h2⟩ := RUs.get (i := i) t (by simpa using h)
    exact ⟨v, by simpa using h1, h2⟩
theorem RUs.erase {G : Gc} {e m : List Addr} {H : Hp} : ∀ {ds : List U} {vs : List V} (i : Nat), RUs G e m H ds vs → RUs G e m H (ds.eraseIdx i) (vs.eraseIdx i)
  | _, _, _, .nil => by simp; exact .nil
  | _, _, 0, .cons _ t => by simpa using t
  | _, _, i + 1, .cons r t => by
    simp only [List.eraseIdx_cons_succ]
    exact .cons r (RUs.erase i t)
section
variable {X : Cx} {T : List (Addr × Str)} {W : WX} {k n p : Nat} {x : Str} {e : Expr} {es : List Expr} {fs : List ME} {pos px : Pos}
theorem e_call {F : List D → R} (h : Kn (gOf X T) X.base k x (sp0 (gOf X T) n F)) (hr : Room k X.A) (tk : Takes X W) (hn : Nat.beq fs.length n = true := by rfl) (ha : PA X (e :: es) (tA (gOf X T) W (argsM fs))) (hg : Gl X x := by rfl)
    (hdb : (x == ("__debug__" : Str)) = false := by decide) (he : starEach (e :: es) X.env = (false, eval e X.env) :: starEach es X.env := by rfl) (hpl : (backTo pos (starEach es X.env)).any (·.1) = false := by rfl) :
    PE X (.Call (.Name x px) (e :: es) [] pos) (tE (gOf X T) W (callM F fs)) := by
  obtain ⟨f, fd, ps, h1, h2, h3, h4⟩ := h.ex
  refine pe_mono (pe_callS h1 hr hg h2 h3 h4 (fun σ => passAt tk σ) ha hdb he hpl) fun σ H Q h => ?_
  obtain ⟨y, m, ρ, S, q, h⟩ := h
  cases q1 : argsM fs ρ S with
  | un => simp only [callM, q1, O.bind] at h; exact h.elim
  | ex ee S' =>
    refine ⟨y, m, ρ, S, q, ?_⟩
    simp only [callM, q1, O.bind] at h ⊢
    exact h
  | ok us S' =>
    refine ⟨y, m, ρ, S, q, ?_⟩
    rw [q1]
    intro m1 H1 E1 R1 vs rvs
    have p1 := q.ext E1 R1
    simp only [callM, q1, O.bind] at h
    refine ⟨by rw [← RUs.length rvs, argsM_len q1]; exact Nat.eq_of_beq_eq_true hn, ?_⟩
    split at h
    · rename_i ds hds
      refine ⟨y ++ m1, ds, p1.trkN, p1.tab, RUs.pure rvs hds, ?_⟩
      unfold PR
      split
      · rename_i d hd
        rw [hd] at h
        exact fun H' v E2 rv => h m1 H' (E1.trans E2.of_nil) (R1.stay0 E2) v (.d rv)
      · rename_i ee hd
        rw [hd] at h
        exact fun H' cls d E2 rx => h m1 H' cls d (E1.trans E2.of_nil) (R1.stay0 E2) rx
      · rename_i hd
        rw [hd] at h
        exact h
    · exact h.elim
theorem e_callC {F : List D → Cell → R1} (h : Kn (gOf X T) X.base k x (sp1 (gOf X T) n p F)) (hr : Room k X.A) (tk : Takes X W) (hn : Nat.beq fs.length n = true := by rfl) (ha : PA X (e :: es) (tA (gOf X T) W (argsM fs))) (hg : Gl X x := by rfl)
    (hdb : (x == ("__debug__" : Str)) = false := by decide) (he : starEach (e :: es) X.env = (false, eval e X.env) :: starEach es X.env := by rfl) (hpl : (backTo pos (starEach es X.env)).any (·.1) = false := by rfl) :
    PE X (.Call (.Name x px) (e :: es) [] pos) (tE (gOf X T) W (callC p F fs)) := by
  obtain ⟨f, fd, ps, h1, h2, h3, h4⟩ := h.ex
  refine pe_mono (pe_callS h1 hr hg h2 h3 h4 (fun σ => passAt tk σ) ha hdb he hpl) fun σ H Q h => ?_
  obtain ⟨y, m, ρ, S, q, h⟩ := h
  cases q1 : argsM fs ρ S with
  | un => simp only [callC, q1, O.bind] at h; exact h.elim
  | ex ee S' =>
    refine ⟨y, m, ρ, S, q, ?_⟩
    simp only [callC, q1, O.bind] at h ⊢
    exact h
  | ok us S' =>
    refine ⟨y, m, ρ, S, q, ?_⟩
    rw [q1]
    intro m1 H1 E1 R1 vs rvs
    have p1 := q.ext E1 R1
    simp only [callC, q1, O.bind] at h
    refine ⟨by rw [← RUs.length rvs, argsM_len q1]; exact Nat.eq_of_beq_eq_true hn, ?_⟩
    split at h
    · rename_i i ds hp hds
      split at h
      · rename_i c hc
        obtain ⟨v, g1, g2⟩ := RUs.get rvs hp
        cases g2 with
        | @c _ a ha' =>
          obtain ⟨o, o1, o2⟩ := R1.at' i a c ha' hc
          have hm : a ∈ m1 := List.mem_of_getElem? ha'
          refine ⟨y ++ m1, a, c, o, ds, p1.trkN, p1.tab, List.mem_append_right _ hm, g1, o1, o2, RUs.pure (rvs.erase p) hds, ?_⟩
          split
          · rename_i d c' hd
            rw [hd] at h
            exact fun H' v o' E2 ho' rc rv => h m1 H' (E1.trans (E2.of_one hm)) (R1.one E2 ha' ho' rc) v (.d rv)
          · rename_i ee c' hd
            rw [hd] at h
            exact fun H' o' cls d E2 ho' rc rx => h m1 H' cls d (E1.trans (E2.of_one hm)) (R1.one E2 ha' ho' rc) rx
          · rename_i hd
            rw [hd] at h
            exact h
      · exact h.elim
    · exact h.elim
theorem e_callN {F : List D → RNw} (h : Kn (gOf X T) X.base k x (spN (gOf X T) n F)) (hr : Room k X.A) (tk : Takes X W) (hn : Nat.beq fs.length n = true := by rfl) (ha : PA X (e :: es) (tA (gOf X T) W (argsM fs))) (hg : Gl X x := by rfl)
    (hdb : (x == ("__debug__" : Str)) = false := by decide) (he : starEach (e :: es) X.env = (false, eval e X.env) :: starEach es X.env := by rfl) (hpl : (backTo pos (starEach es X.env)).any (·.1) = false := by rfl) :
    PE X (.Call (.Name x px) (e :: es) [] pos) (tE (gOf X T) W (callN F fs)) := by
  obtain ⟨f, fd, ps, h1, h2, h3, h4⟩ := h.ex
  refine pe_mono (pe_callS h1 hr hg h2 h3 h4 (fun σ => passAt tk σ) ha hdb he hpl) fun σ H Q h => ?_
  obtain ⟨y, m, ρ, S, q, h⟩ := h
  cases q1 : argsM fs ρ S with
  | un => simp only [callN, q1, O.bind] at h; exact h.elim
  | ex ee S' =>
    refine ⟨y, m, ρ, S, q, ?_⟩
    simp only [callN, q1, O.bind] at h ⊢
    exact h
  | ok us S' =>
    refine ⟨y, m, ρ, S, q, ?_⟩
    rw [q1]
    intro m1 H1 E1 R1 vs rvs
    have p1 := q.ext E1 R1
    simp only [callN, q1, O.bind] at h
    refine ⟨by rw [← RUs.length rvs, argsM_len q1]; exact Nat.eq_of_beq_eq_true hn, ?_⟩
    split at h
    · rename_i ds hds
      refine ⟨y ++ m1, ds, p1.trkN, p1.tab, RUs.pure rvs hds, ?_⟩
      split
      · rename_i c hd
        rw [hd] at h
        intro H' a o E2 ho rc
        obtain ⟨nw, e2, f2⟩ := E2.pre
        have hn1 : ¬ Nt H1 a := f2 a (by rw [List.nil_append] at e2; rw [← e2]; simp)
        have E3 : Ext (gOf X T) m1 H1 (m1 ++ [a]) H' := E2.of_new hn1
        refine h (m1 ++ [a]) H' (E1.trans E3) ?_ _ (.c (by rw [← R1.len]; simp))
        have nm : a ∉ m1 := fun z => hn1 (R1.nt z)
        refine ⟨by simp [R1.len], List.nodup_append.mpr ⟨R1.nd, by simp, fun b hb c' hc' => ?_⟩, fun b hb => List.mem_append_right _ hb, fun i b c' g1 g2 => ?_⟩
        · have : c' = a := by simpa using hc'
          subst this
          exact fun z => nm (z ▸ hb)
        · by_cases hi : i < m1.length
          · rw [List.getElem?_append_left hi] at g1
            rw [List.getElem?_append_left (by rw [← R1.len]; exact hi)] at g2
            obtain ⟨o', q3, q4⟩ := R1.at' i b c' g1 g2
            exact ⟨o', E2.keep _ _ q3 (fun z => by cases z) q4.notbl, q4.ext E3⟩
          · have e4 : i = m1.length := by
              have := (List.getElem?_eq_some_iff.mp g1).1
              simp at this
              omega
            subst e4
            rw [List.getElem?_append_right (Nat.le_refl _), Nat.sub_self] at g1
            rw [R1.len, List.getElem?_append_right (Nat.le_refl _), Nat.sub_self] at g2
            have e5 : a = b := Option.some.inj g1
            have e6 : c = c' := Option.some.inj g2
            subst e5 e6
            exact ⟨o, ho, by rw [← List.append_assoc]; exact rc⟩
      · rename_i ee hd
        rw [hd] at h
        exact fun H' cls d E2 rx => h m1 H' cls d (E1.trans E2.of_nil) (R1.stay0 E2) rx
      · rename_i hd
        rw [hd] at h
        exact h
    · exact h.elim
end

/-! ### a body's mirror gives the promise -/
def env0 (n : Nat) (us : List U) : Env := us.map some ++ List.replicate (n - us.length) none
def frzC (S : Sto) (i : Nat) : Option D := match S[i]? with
  | some (.lst xs) => some (.lst xs)
  | some (.dic t ks vs) => some (.dic t ks vs)
  | _ => none
def frzW (S : Sto) : List (D ⊕ Nat) → Option (List D)
  | [] => some []
  | .inl d :: us => match frzW S us with
    | some ds => some (d :: ds)
    | none => none
  | .inr i :: us => match frzC S i, frzW S us with
    | some d, some ds => some (d :: ds)
    | _, _ => none
def frz (S : Sto) : U → Option D
  | .d x => some x
  | .c i => match S[i]? with
    | some (.lst xs) => some (.lst xs)
    | some (.dic t ks vs) => some (.dic t ks vs)
    | _ => none
  | .t us => match frzW S us with
    | some ds => some (.tup ds)
    | none => none
def run0 (n : Nat) (f : MS) (ds : List D) : R := match f (env0 n (ds.map .d)) [] with
  | .rt u S => match frz S u with
    | some d => .ok d
    | none => .un
  | .nx _ _ => .ok .non
  | .ex e _ _ => .ex e
  | _ => .un
def ins1 (p : Nat) (ds : List D) : List U := (ds.take p).map .d ++ .c 0 :: (ds.drop p).map .d
def run1 (n p : Nat) (f : MS) (ds : List D) (c : Cell) : R1 := match f (env0 n (ins1 p ds)) [c] with
  | .rt (.d d) (c' :: _) => .ok d c'
  | .rt (.c (i + 1)) (c' :: S) => match frz S (.c i) with
    | some d => .ok d c'
    | none => .un
  | .nx _ (c' :: _) => .ok .non c'
  | .ex e _ (c' :: _) => .ex e c'
  | _ => .un
def runN (n : Nat) (f : MS) (ds : List D) : RNw := match f (env0 n (ds.map .d)) [] with
  | .rt (.c i) S => match S[i]? with
    | some c => .ok c
    | none => .un
  | .ex e _ _ => .ex e
  | _ => .un
section
variable {G : Gc} {e m : List Addr} {H : Hp}
theorem RE.nones : ∀ (n : Nat), RE G e m H (List.replicate n none) (List.replicate n none)
  | 0 => .nil
  | n + 1 => by rw [List.replicate_succ, List.replicate_succ]; exact .em (RE.nones n)
theorem RE.of : ∀ {us : List U} {vs : List V} (n : Nat), RUs G e m H us vs → RE G e m H (us.map some ++ List.replicate n none) (vs.map some ++ List.replicate n none)
  | _, _, n, .nil => RE.nones n
  | _, _, n, .cons r t => .cns r (RE.of n t)
theorem RVs.us : ∀ {ds : List D} {vs : List V}, RVs G e H ds vs → RUs G e m H (ds.map .d) vs
  | _, _, .nil => .nil
  | _, _, .cons r t => .cons (.d r) (RVs.us t)
theorem RUs.app : ∀ {us : List U} {vs : List V} {us' : List U} {vs' : List V}, RUs G e m H us vs → RUs G e m H us' vs' → RUs G e m H (us ++ us') (vs ++ vs')
  | _, _, _, _, .nil, r => r
  | _, _, _, _, .cons r t, q => .cons r (RUs.app t q)
theorem frzC_rv {x : List Addr} {S : Sto} {i : Nat} {a : Addr} {d : D} (s : RS G (x ++ m) m H S) (hm : ∀ a ∈ m, a ∉ x) (ha : m[i]? = some a) (h : frzC S i = some d) : RV G x H d (.ref a) := by
  have kp : Keep G (x ++ m) H x H := keep_sub fun a ha => List.mem_append_left _ ha
  have na : a ∉ x := hm a (List.mem_of_getElem? ha)
  unfold frzC at h
  split at h
  · rename_i xs hs
    cases h
    obtain ⟨o, q1, q2⟩ := s.at' i a _ ha hs
    cases q2 with
    | lst q => exact .lst q1 na (q.keep kp)
  · rename_i t ks vs hs
    cases h
    obtain ⟨o, q1, q2⟩ := s.at' i a _ ha hs
    cases q2 with
    | dic q q3 => exact .dic q1 na q (q3.keep kp)
  · cases h
theorem frzW_rv {x : List Addr} {S : Sto} (s : RS G (x ++ m) m H S) (hm : ∀ a ∈ m, a ∉ x) : ∀ {us : List (D ⊕ Nat)} {vs : List V} {ds : List D}, RW G (x ++ m) m H us vs → frzW S us = some ds → RVs G x H ds vs
  | _, _, _, .nil, h => by simp only [frzW, Option.some.injEq] at h; subst h; exact .nil
  | _, _, _, .d r t, h => by
    unfold frzW at h
    split at h
    · rename_i ds h1
      cases h
      exact .cons (r.keep (keep_sub fun a ha => List.mem_append_left _ ha)) (frzW_rv s hm t h1)
    · cases h
  | _, _, _, .c ha t, h => by
    unfold frzW at h
    split at h
    · rename_i d ds h1 h2
      cases h
      exact .cons (frzC_rv s hm ha h1) (frzW_rv s hm t h2)
    · cases h
theorem frz_rv {x : List Addr} {S : Sto} {u : U} {v : V} {d : D} (s : RS G (x ++ m) m H S) (hm : ∀ a ∈ m, a ∉ x) (r : RU G (x ++ m) m H u v) (h : frz S u = some d) : RV G x H d v := by
  have kp : Keep G (x ++ m) H x H := keep_sub fun a ha => List.mem_append_left _ ha
  cases r with
  | d r => cases h; exact r.keep kp
  | @c i a ha =>
    unfold frz at h
    split at h
    · rename_i y hy; cases hy
    · rename_i j hy
      cases hy
      have na : a ∉ x := hm a (List.mem_of_getElem? ha)
      split at h
      · rename_i xs hs
        cases h
        obtain ⟨o, q1, q2⟩ := s.at' i a _ ha hs
        cases q2 with
        | lst q => exact .lst q1 na (q.keep kp)
      · rename_i t ks vs hs
        cases h
        obtain ⟨o, q1, q2⟩ := s.at' i a _ ha hs
        cases q2 with
        | dic q q3 => exact .dic q1 na q (q3.keep kp)
      · cases h
    · rename_i us hy; cases hy
  | t hq r =>
    unfold frz at h
    dsimp only at h
    split at h
    · rename_i ds h1
      cases h
      exact .tup (kp.tup _ _ hq) (frzW_rv s hm r h1)
    · cases h
theorem RX.sub {x : List Addr} {ex : Exn} {cls : Value} {d : Option Addr} (r : RX G (x ++ m) H ex cls d) : RX G x H ex cls d := by
  obtain ⟨C, h1, h2, h3⟩ := r
  refine ⟨C, h1, h2, ?_⟩
  revert h3
  cases ex.fs with
  | none => exact id
  | some fs => exact fun ⟨a, gs, q1, q2, q3⟩ => ⟨a, gs, q1, q2, q3.keep (keep_sub fun a ha => List.mem_append_left _ ha)⟩
end
section
variable {P : Program} {w : World} {K : PySem.W.Frag} {mg : Str → Option Value} {base : Heap} {T : List (Addr × Str)} {x qual : Str} {st : Stmt} {f : Addr} {fd : FuncData} {N ps : List Str} {k : Nat} {b : MS}
/-- the context of a body -/
abbrev bodyX (P : Program) (w : World) (K : PySem.W.Frag) (mg : Str → Option Value) (base : Heap) (N : List Str) (qual : Str) (st : Stmt) (f : Addr) (cdv : Value) (A : Around) (outer : List PySem.Env) (s : Shared) (H : Hp) (E : XK) : Cx :=
  cxOf (L2.CX P w) P w K mg base N qual (defScope st) f cdv A outer s H E
abbrev Der (P : Program) (w : World) (K : PySem.W.Frag) (mg : Str → Option Value) (base : Heap) (T : List (Addr × Str)) (N : List Str) (qual : Str) (st : Stmt) (f : Addr) (k : Nat) (b : MS) : Prop :=
  ∀ (cdv : Value) (A : Around) (outer : List PySem.Env) (s : Shared) (H : Hp) (E : XK), Room k (bodyX P w K mg base N qual st f cdv A outer s H E).A → (bodyX P w K mg base N qual st f cdv A outer s H E).A.units + 65 < cLine →
    Takes (bodyX P w K mg base N qual st f cdv A outer s H E) (fun cls d _ H => E cls d H) → PassesOwn (model (bodyX P w K mg base N qual st f cdv A outer s H E).prog (bodyX P w K mg base N qual st f cdv A outer s H E).w) (bodyX P w K mg base N qual st f cdv A outer s H E).A (bodyX P w K mg base N qual st f cdv A outer s H E).env (bodyX P w K mg base N qual st f cdv A outer s H E).xe →
    PSs (bodyX P w K mg base N qual st f cdv A outer s H E) (defBody st) (tS (gOf (bodyX P w K mg base N qual st f cdv A outer s H E) T) (fun cls d _ H => E cls d H) b)

/-- what a body's derivation gives, whatever is promised -/
abbrev OBt (P : Program) (w : World) (K : PySem.W.Frag) (mg : Str → Option Value) (base : Heap) (T : List (Addr × Str)) (N : List Str) (f : Addr) (fd : FuncData) (k : Nat) (ps : List Str) (b : MS) : Prop :=
  ∀ sp : Sp, (∀ vs H Q E, sp vs H Q E → vs.length = ps.length) → (∀ vs H Q E, sp vs H Q E → ∃ (x m : List Addr) (ρ : Env) (S' : Sto), Rp ⟨P, w, K, mg, T⟩ x m H ρ S' (L2.start N vs) ∧ PostS ⟨P, w, K, mg, T⟩ (fun cls d _ H => E cls d H) x m H (b ρ S') { nx := fun _ H' => Q .non H', rt := Q }) →
    FnOk P w K mg base (L2.CX P w) (k + 1) f fd ps sp
theorem ok_body (F : Fun K x qual st f fd) (S : FnScope N ps (defScope st)) {sp : Sp} (hl : ∀ vs H Q E, sp vs H Q E → vs.length = ps.length) (D' : Der P w K mg base T N qual st f k b)
    (h : ∀ vs H Q E, sp vs H Q E → ∃ (x m : List Addr) (ρ : Env) (S' : Sto), Rp ⟨P, w, K, mg, T⟩ x m H ρ S' (L2.start N vs) ∧ PostS ⟨P, w, K, mg, T⟩ (fun cls d _ H => E cls d H) x m H (b ρ S') { nx := fun _ H' => Q .non H', rt := Q }) :
    FnOk P w K mg base (L2.CX P w) (k + 1) f fd ps sp := by
  refine F.okX S hl fun cdv A outer s H vs Q E hr hsp => ?_
  exact ⟨_, D' cdv A outer s H E hr (Nat.lt_of_le_of_lt (Nat.add_le_add_left (show 65 ≤ 16 * k + 200 by omega) _) (by rw [← Nat.add_assoc]; exact hr.un)) (takes_of rfl rfl rfl rfl) (passes_of rfl), h vs H Q E hsp⟩
theorem ok0' {n : Nat} {Fn : List D → R} (OB : OBt P w K mg base T N f fd k ps b) (hn : n = ps.length) (h : ∀ ds, Fn ds ≠ .un → run0 N.length b ds = Fn ds) :
    FnOk P w K mg base (L2.CX P w) (k + 1) f fd ps (sp0 ⟨P, w, K, mg, T⟩ n Fn) := by
  refine OB _ (fun vs H Q E h => h.1.trans hn) fun vs H Q E ⟨hl, y, ds, tr, tb, r, pr⟩ => ?_
  have hds : ds.length = vs.length := r.len
  refine ⟨y, [], env0 N.length (ds.map .d), [], ⟨?_, ⟨rfl, List.nodup_nil, fun _ z => (by cases z), fun i a c h => (by simp at h)⟩, tr, tb⟩, ?_⟩
  · unfold env0 L2.start
    rw [List.length_map, hds, List.append_nil]
    exact RE.of _ (RVs.us r)
  · have hne : Fn ds ≠ .un := fun z => by rw [z] at pr; exact pr
    have hrun := h ds hne
    unfold run0 at hrun
    rw [← hrun] at pr
    cases q : b (env0 N.length (ds.map .d)) [] with
    | nx ρ' S' => rw [q] at pr; exact fun m' H' σ' E1 _ => pr H' .non E1.drop .non
    | rt u S' =>
      rw [q] at pr
      intro m' H' v E1 rs ru
      dsimp only at pr
      split at pr
      · rename_i d hd
        refine pr H' v E1.drop (frz_rv rs (fun a ha z => ?_) ru hd)
        obtain ⟨nw, e1, f1⟩ := E1.pre
        rw [List.nil_append] at e1
        exact f1 a (by rw [← e1]; exact ha) (tr a z)
      · exact pr.elim
    | bk ρ' S' => rw [q] at pr; exact pr.elim
    | ct ρ' S' => rw [q] at pr; exact pr.elim
    | ex e ρ' S' => rw [q] at pr; exact fun m' H' σ' cls d E1 _ rx => pr H' cls d E1.drop rx.sub
    | un => rw [q] at pr; exact pr.elim
theorem ok0 {n : Nat} {Fn : List D → R} (F : Fun K x qual st f fd) (S : FnScope N ps (defScope st)) (D' : Der P w K mg base T N qual st f k b) (hn : n = ps.length) (h : ∀ ds, Fn ds ≠ .un → run0 N.length b ds = Fn ds) :
    FnOk P w K mg base (L2.CX P w) (k + 1) f fd ps (sp0 ⟨P, w, K, mg, T⟩ n Fn) := ok0' (fun sp hl h => ok_body F S hl D' h) hn h
theorem okN' {n : Nat} {Fn : List D → RNw} (OB : OBt P w K mg base T N f fd k ps b) (hn : n = ps.length) (h : ∀ ds, Fn ds ≠ .un → runN N.length b ds = Fn ds) :
    FnOk P w K mg base (L2.CX P w) (k + 1) f fd ps (spN ⟨P, w, K, mg, T⟩ n Fn) := by
  refine OB _ (fun vs H Q E h => h.1.trans hn) fun vs H Q E ⟨hl, y, ds, tr, tb, r, pr⟩ => ?_
  have hds : ds.length = vs.length := r.len
  refine ⟨y, [], env0 N.length (ds.map .d), [], ⟨?_, ⟨rfl, List.nodup_nil, fun _ z => (by cases z), fun i a c h => (by simp at h)⟩, tr, tb⟩, ?_⟩
  · unfold env0 L2.start
    rw [List.length_map, hds, List.append_nil]
    exact RE.of _ (RVs.us r)
  · have hne : Fn ds ≠ .un := fun z => by rw [z] at pr; exact pr
    have hrun := h ds hne
    unfold runN at hrun
    rw [← hrun] at pr
    cases q : b (env0 N.length (ds.map .d)) [] with
    | nx ρ' S' => rw [q] at pr; exact pr.elim
    | rt u S' =>
      rw [q] at pr
      intro m' H' v E1 rs ru
      cases ru with
      | d r => exact pr.elim
      | t _ _ => exact pr.elim
      | @c i a ha =>
        cases hS : S'[i]? with
        | none => simp only [hS] at pr
        | some c =>
          simp only [hS] at pr
          obtain ⟨o, o1, o2⟩ := rs.at' i a _ ha hS
          obtain ⟨nw, e1, f1⟩ := E1.pre
          rw [List.nil_append] at e1
          have na : ¬ Nt H a := f1 a (by rw [← e1]; exact List.mem_of_getElem? ha)
          refine pr H' a o ⟨fun b u g _ t => E1.keep b u g (fun z => by cases z) t, E1.tups, E1.frzs, E1.owns, E1.live, ⟨[a], rfl, fun b hb => ?_⟩, E1.tab⟩ o1 (o2.keep (keep_sub fun c hc => ?_) fun _ _ z => z)
          · have e2 : b = a := by simpa using hb
            rw [e2]; exact na
          · rcases List.mem_append.mp hc with z | z
            · exact List.mem_append_left _ z
            · have e2 : c = a := by simpa using z
              rw [e2]; exact List.mem_append_right _ (List.mem_of_getElem? ha)
    | bk ρ' S' => rw [q] at pr; exact pr.elim
    | ct ρ' S' => rw [q] at pr; exact pr.elim
    | ex e ρ' S' => rw [q] at pr; exact fun m' H' σ' cls d E1 _ rx => pr H' cls d E1.drop rx.sub
    | un => rw [q] at pr; exact pr.elim
theorem okN {n : Nat} {Fn : List D → RNw} (F : Fun K x qual st f fd) (S : FnScope N ps (defScope st)) (D' : Der P w K mg base T N qual st f k b) (hn : n = ps.length) (h : ∀ ds, Fn ds ≠ .un → runN N.length b ds = Fn ds) :
    FnOk P w K mg base (L2.CX P w) (k + 1) f fd ps (spN ⟨P, w, K, mg, T⟩ n Fn) := okN' (fun sp hl h => ok_body F S hl D' h) hn h
theorem ins_rus {G : Gc} {e m : List Addr} {H : Hp} {a : Addr} (hm : m[0]? = some a) : ∀ {p : Nat} {ds : List D} {vs : List V}, RVs G e H ds (vs.eraseIdx p) → vs[p]? = some (.ref a) → RUs G e m H (ins1 p ds) vs
  | 0, ds, v :: vs, r, h => by
    simp only [List.getElem?_cons_zero, Option.some.injEq] at h
    subst h
    rw [List.eraseIdx_cons_zero] at r
    simp only [ins1, List.take_zero, List.map_nil, List.nil_append, List.drop_zero]
    exact .cons (.c hm) (RVs.us r)
  | p + 1, ds, v :: vs, r, h => by
    rw [List.eraseIdx_cons_succ] at r
    cases r with
    | @cons d _ ds' _ r1 r2 =>
      have q := ins_rus (p := p) hm r2 (by simpa using h)
      show RUs G e m H (ins1 (p + 1) (d :: ds')) (v :: vs)
      have e1 : ins1 (p + 1) (d :: ds') = .d d :: ins1 p ds' := by simp [ins1]
      rw [e1]
      exact .cons (.d r1) q
  | _, _, [], _, h => by simp at h
theorem ins1_len {p : Nat} {ds : List D} (h : p ≤ ds.length) : (ins1 p ds).length = ds.length + 1 := by
  simp [ins1]; omega
theorem ok1' {n p : Nat} {Fn : List D → Cell → R1} (OB : OBt P w K mg base T N f fd k ps b) (hn : n = ps.length) (h : ∀ ds c, Fn ds c ≠ .un → run1 N.length p b ds c = Fn ds c) :
    FnOk P w K mg base (L2.CX P w) (k + 1) f fd ps (sp1 ⟨P, w, K, mg, T⟩ n p Fn) := by
  refine OB _ (fun vs H Q E h => h.1.trans hn) fun vs H Q E ⟨hl, y, a, c, o, ds, tr, tb, hay, hp, ha, rc, r, pr⟩ => ?_
  have kp : Keep ⟨P, w, K, mg, T⟩ y H (y ++ [a]) H := keep_sub fun b hb => by
    rcases List.mem_append.mp hb with z | z
    · exact z
    · have e1 : b = a := by simpa using z
      rw [e1]; exact hay
  have hus : RUs ⟨P, w, K, mg, T⟩ (y ++ [a]) [a] H (ins1 p ds) vs := ins_rus rfl (r.keep kp) hp
  refine ⟨y, [a], env0 N.length (ins1 p ds), [c], ⟨?_, ⟨rfl, by simp, fun b hb => List.mem_append_right _ hb, fun i b c' h1 h2 => ?_⟩, tr, tb⟩, ?_⟩
  · unfold env0 L2.start
    rw [RUs.length hus]
    exact RE.of _ hus
  · cases i with
    | zero =>
      simp at h1 h2
      subst h1 h2
      exact ⟨o, ha, rc.keep kp fun _ _ z => z⟩
    | succ i => simp at h1
  · have hne : Fn ds c ≠ .un := fun z => by rw [z] at pr; exact pr
    have hrun := h ds c hne
    unfold run1 at hrun
    rw [← hrun] at pr
    -- the first cell is still the caller's
    have first : ∀ {m' : List Addr} {H' : Hp} {c' : Cell} {S' : Sto}, Ext ⟨P, w, K, mg, T⟩ [a] H m' H' → RS ⟨P, w, K, mg, T⟩ (y ++ m') m' H' (c' :: S') → ∃ o', H' a = some o' ∧ RC ⟨P, w, K, mg, T⟩ y H' a c' o' := fun {m' H' c' S'} E1 rs => by
      obtain ⟨nw, e1, f1⟩ := E1.pre
      obtain ⟨o', q1, q2⟩ := rs.at' 0 a c' (by rw [e1]; rfl) rfl
      exact ⟨o', q1, q2.keep (keep_sub fun b hb => List.mem_append_left _ hb) fun _ _ z => z⟩
    cases q : b (env0 N.length (ins1 p ds)) [c] with
    | nx ρ' S' =>
      rw [q] at pr
      intro m' H' σ' E1 rp
      cases S' with
      | nil => exact pr.elim
      | cons c' S' =>
        obtain ⟨o', q1, q2⟩ := first E1 rp.sto
        exact pr H' .non o' E1.drop q1 q2 .non
    | rt u S' =>
      rw [q] at pr
      intro m' H' v E1 rs ru
      cases S' with
      | nil =>
        cases u with
        | d x => exact pr.elim
        | t us => exact pr.elim
        | c i => cases i <;> exact pr.elim
      | cons c' S' =>
        obtain ⟨o', q1, q2⟩ := first E1 rs
        obtain ⟨nw, e1, f1⟩ := E1.pre
        cases u with
        | d x =>
          cases ru with
          | d r => exact pr H' v o' E1.drop q1 q2 (r.keep (keep_sub fun b hb => List.mem_append_left _ hb))
        | t us => exact pr.elim
        | c i =>
          cases i with
          | zero => exact pr.elim
          | succ i =>
            cases hf : frz S' (.c i) with
            | none => simp only [hf] at pr
            | some d =>
              simp only [hf] at pr
              refine pr H' v o' E1.drop q1 q2 ?_
              cases ru with
              | @c _ b hb =>
                have hb' : b ∈ nw := by
                  rw [e1] at hb
                  exact List.mem_of_getElem? (by simpa using hb)
                have nb : b ∉ y := fun z => f1 b hb' (tr b z)
                unfold frz at hf
                dsimp only at hf
                split at hf
                · rename_i xs hs
                  cases hf
                  obtain ⟨o2, q3, q4⟩ := rs.at' (i + 1) b _ hb (by simpa using hs)
                  cases q4 with
                  | lst q4 => exact .lst q3 nb (q4.keep (keep_sub fun b hb => List.mem_append_left _ hb))
                · rename_i t ks vs' hs
                  cases hf
                  obtain ⟨o2, q3, q4⟩ := rs.at' (i + 1) b _ hb (by simpa using hs)
                  cases q4 with
                  | dic q4 q5 => exact .dic q3 nb q4 (q5.keep (keep_sub fun b hb => List.mem_append_left _ hb))
                · cases hf
    | bk ρ' S' => rw [q] at pr; exact pr.elim
    | ct ρ' S' => rw [q] at pr; exact pr.elim
    | ex e ρ' S' =>
      rw [q] at pr
      intro m' H' σ' cls d E1 rp rx
      cases S' with
      | nil => exact pr.elim
      | cons c' S' =>
        obtain ⟨o', q1, q2⟩ := first E1 rp.sto
        exact pr H' o' cls d E1.drop q1 q2 rx.sub
    | un => rw [q] at pr; exact pr.elim
theorem ok1 {n p : Nat} {Fn : List D → Cell → R1} (F : Fun K x qual st f fd) (S : FnScope N ps (defScope st)) (D' : Der P w K mg base T N qual st f k b) (hn : n = ps.length) (h : ∀ ds c, Fn ds c ≠ .un → run1 N.length p b ds c = Fn ds c) :
    FnOk P w K mg base (L2.CX P w) (k + 1) f fd ps (sp1 ⟨P, w, K, mg, T⟩ n p Fn) := ok1' (fun sp hl h => ok_body F S hl D' h) hn h
end
end Mir

/-! Mir7: statements. -/
namespace Mir
open PySem PySem.Spec PyProof.Rows L2

abbrev MG := U → Env → Sto → Option (Env × Sto)
def nxtM : MS := fun ρ S => .nx ρ S
def seqM (f g : MS) : MS := fun ρ S => match f ρ S with
  | .nx ρ' S' => g ρ' S'
  | o => o
def toS (ρ : Env) (o : O U) (k : U → Sto → SO) : SO := match o with
  | .ok u S' => k u S'
  | .ex e S' => .ex e ρ S'
  | .un => .un
def retM (f : ME) : MS := fun ρ S => toS ρ (f ρ S) fun u S' => .rt u S'
def retNM : MS := fun _ S => .rt (.d .non) S
def drpM (f : ME) : MS := fun ρ S => toS ρ (f ρ S) fun _ S' => .nx ρ S'
def asgM (f : ME) (g : MG) : MS := fun ρ S => toS ρ (f ρ S) fun u S' => match g u ρ S' with
  | some q => .nx q.1 q.2
  | none => .un
def ifM (t : MT) (f g : MS) : MS := fun ρ S => match t ρ S with
  | .ok b S' => if b = true then f ρ S' else g ρ S'
  | .ex e S' => .ex e ρ S'
  | .un => .un
def brkM : MS := fun ρ S => .bk ρ S
def cntM : MS := fun ρ S => .ct ρ S
def raiM (e : Exn) : MS := fun ρ S => .ex e ρ S
/-- targets -/
def namG (i : Nat) : MG := fun u ρ S => some (ρ.set i (some u), S)
def allG : List MG → List D → Env → Sto → Option (Env × Sto)
  | [], [], ρ, S => some (ρ, S)
  | g :: gs, d :: ds, ρ, S => match g (.d d) ρ S with
    | some q => allG gs ds q.1 q.2
    | none => none
  | _, _, _, _ => none
def tupG (gs : List MG) : MG := fun u ρ S => match u with
  | .d (.tup xs) => allG gs xs ρ S
  | _ => none
def lsuG (gs : List MG) : MG := fun u ρ S => match rd S u with
  | some (.lst xs) => allG gs xs ρ S
  | _ => none
/-- two or three names at once -/
def parM (is : List Nat) (fs : List ME) : MS := fun ρ S => match argsM fs ρ S with
  | .ok us S' => if us.length = is.length then .nx ((is.zip us).foldl (fun ρ p => ρ.set p.1 (some p.2)) ρ) S' else .un
  | .ex e S' => .ex e ρ S'
  | .un => .un

section
variable {G : Gc} {W : WX} {x m : List Addr} {H : Hp} {σ : St} {ρ : Env}
theorem Post.toS {o : O U} {k : U → Sto → SO} {Dn : Ends} (h : PostS G W x m H (toS ρ o k) Dn) {S : Sto} (p : Rp G x m H ρ S σ) : Post G W x m σ H o fun u S1 m1 H1 => Ext G m H m1 H1 ∧ RS G (x ++ m1) m1 H1 S1 ∧ PostS G W x m1 H1 (k u S1) Dn := by
  cases o with
  | ok u S' => exact fun m' H' E R => ⟨E, R, PostS.shift E h⟩
  | ex e S' => exact fun m' H' cls d E R rx => h m' H' σ cls d E (p.ext E R) rx
  | un => exact h
end
def tG (G : Gc) (W : WX) (g : MG) : TG := fun v σ H Q => ∃ x m ρ S u, Rp G x m H ρ S σ ∧ RU G (x ++ m) m H u v ∧ match g u ρ S with
  | some q => ∀ m' H' σ', Ext G m H m' H' → Rp G x m' H' q.1 q.2 σ' → Q σ' H'
  | none => False
section
variable {X : Cx} {T : List (Addr × Str)} {W : WX} {st : Stmt} {rest a b : List Stmt} {e : Expr} {f g : MS} {fe : ME} {gt : MG} {pos : Pos}
theorem s_nil : PSs X [] (tS (gOf X T) W nxtM) := pss_mono pss_nil fun Dn σ H h => by
  obtain ⟨x, m, ρ, S, p, h⟩ := h
  exact h m H σ Ext.refl p
theorem s_cons (h1 : PS X st (tS (gOf X T) W f)) (h2 : PSs X rest (tS (gOf X T) W g)) : PSs X (st :: rest) (tS (gOf X T) W (seqM f g)) := pss_mono (pss_cons h1 h2) fun Dn σ H h => by
  obtain ⟨x, m, ρ, S, p, h⟩ := h
  refine ⟨x, m, ρ, S, p, ?_⟩
  unfold seqM at h
  cases q : f ρ S with
  | nx ρ' S' =>
    rw [q] at h
    exact fun m' H' σ' E1 p1 => ⟨x, m', ρ', S', p1, PostS.shift E1 h⟩
  | rt u S' => rw [q] at h; exact h
  | bk ρ' S' => rw [q] at h; exact h
  | ct ρ' S' => rw [q] at h; exact h
  | ex e ρ' S' => rw [q] at h; exact h
  | un => rw [q] at h; exact h
theorem s_one (h1 : PS X st (tS (gOf X T) W f)) : PSs X [st] (tS (gOf X T) W f) := pss_one h1
theorem s_pass : PS X (.Pass pos) (tS (gOf X T) W nxtM) := ps_mono ps_pass fun Dn σ H h => by
  obtain ⟨x, m, ρ, S, p, h⟩ := h
  exact h m H σ Ext.refl p
theorem s_doc {y j p2} : PS X (.Expr (.Constant (.str y) j pos) p2) (tS (gOf X T) W nxtM) := ps_mono ps_doc fun Dn σ H h => by
  obtain ⟨x, m, ρ, S, p, h⟩ := h
  exact h m H σ Ext.refl p
theorem s_brk : PS X (.Break pos) (tS (gOf X T) W brkM) := ps_mono ps_break fun Dn σ H h => by
  obtain ⟨x, m, ρ, S, p, h⟩ := h
  exact h m H σ Ext.refl p
theorem s_cnt : PS X (.Continue pos) (tS (gOf X T) W cntM) := ps_mono ps_continue fun Dn σ H h => by
  obtain ⟨x, m, ρ, S, p, h⟩ := h
  exact h m H σ Ext.refl p
theorem s_ret (he : PE X e (tE (gOf X T) W fe)) : PS X (.Return (some e) pos) (tS (gOf X T) W (retM fe)) := ps_mono (ps_ret he) fun Dn σ H h => by
  obtain ⟨x, m, ρ, S, p, h⟩ := h
  exact ⟨x, m, ρ, S, p, (Post.toS h p).mono fun u S1 m1 H1 E1 R1 ⟨_, _, h1⟩ v rv => h1 m1 H1 v Ext.refl R1 rv⟩
theorem s_retN : PS X (.Return none pos) (tS (gOf X T) W retNM) := ps_mono ps_retN fun Dn σ H h => by
  obtain ⟨x, m, ρ, S, p, h⟩ := h
  exact h m H .non Ext.refl p.sto (.d .non)
theorem s_expr (he : PE X e (tE (gOf X T) W fe)) (hs : swapsWith e none pos.line X.env = pure false := by rfl) : PS X (.Expr e pos) (tS (gOf X T) W (drpM fe)) := ps_mono (ps_expr he hs) fun Dn σ H h => by
  obtain ⟨x, m, ρ, S, p, h⟩ := h
  exact ⟨x, m, ρ, S, p, (Post.toS h p).mono fun u S1 m1 H1 E1 R1 ⟨_, _, h1⟩ v rv => h1 m1 H1 σ Ext.refl (p.ext E1 R1)⟩
theorem s_set (i : Nat) {y : Str} {p2 : Pos} (hN : X.N.Nodup) (he : PE X e (tE (gOf X T) W fe)) (hi : X.N[i]? = some y := by rfl) (hx : Loc X.env.scope y := by first | exact Or.inl rfl | exact Or.inr rfl) (hs : swapsWith e (some (.Name y p2)) pos.line X.env = pure false := by rfl) (hf : X.fn y = true ∨ X.env.scope.names.lookup y = some .local := by first | exact .inl rfl | exact .inr rfl) :
    PS X (.Assign [.Name y p2] e pos) (tS (gOf X T) W (asgM fe (namG i))) := ps_mono (ps_set hN hi hx he hs hf) fun Dn σ H h => by
  obtain ⟨x, m, ρ, S, p, h⟩ := h
  refine ⟨x, m, ρ, S, p, (Post.toS h p).mono fun u S1 m1 H1 E1 R1 ⟨_, _, h1⟩ v rv => ?_⟩
  have p1 := p.ext E1 R1
  exact h1 m1 H1 _ Ext.refl ⟨p1.env.set rv i, p1.sto, p1.ex, p1.tab⟩
theorem s_asg {tg : Expr} (he : PE X e (tE (gOf X T) W fe)) (hg : PG X tg (tG (gOf X T) W gt)) (hs : swapsWithSole [tg] e pos.line X.env = pure false := by rfl) (hw : swappedStores [tg] e X.env = pure none := by rfl)
    (h1 : (assignEach [tg] X.env).map (·.2) = [assign tg X.env] := by rfl) : PS X (.Assign [tg] e pos) (tS (gOf X T) W (asgM fe gt)) := ps_mono (ps_asg he hg hs hw h1) fun Dn σ H h => by
  obtain ⟨x, m, ρ, S, p, h⟩ := h
  cases q : fe ρ S with
  | un => simp only [asgM, q, toS] at h; exact h.elim
  | ex ee S' =>
    refine ⟨x, m, ρ, S, p, ?_⟩
    simp only [asgM, q, toS] at h ⊢
    exact fun m' H' cls d E R rx => h m' H' σ cls d E (p.ext E R) rx
  | ok u S' =>
    refine ⟨x, m, ρ, S, p, ?_⟩
    rw [q]
    intro m1 H1 E1 R1 v rv
    have p1 := p.ext E1 R1
    simp only [asgM, q, toS] at h
    refine ⟨x, m1, ρ, S', u, p1, rv, ?_⟩
    revert h
    cases gt u ρ S' with
    | some q => exact fun h m' H' σ' E2 p2 => h m' H' σ' (E1.trans E2) p2
    | none => exact fun h => h
theorem s_if {c : Expr} {tc : MT} (hc : PT X c (tT (gOf X T) W tc)) (ha : PSs X a (tS (gOf X T) W f)) (hb : PSs X b (tS (gOf X T) W g)) : PS X (.If c a b pos) (tS (gOf X T) W (ifM tc f g)) := ps_mono (ps_if hc ha hb) fun Dn σ H h => by
  obtain ⟨x, m, ρ, S, p, h⟩ := h
  refine ⟨x, m, ρ, S, p, ?_⟩
  unfold ifM at h
  cases q : tc ρ S with
  | un => rw [q] at h; exact h
  | ex ee S' => rw [q] at h; exact fun m' H' cls d E R rx => h m' H' σ cls d E (p.ext E R) rx
  | ok b S' =>
    rw [q] at h
    intro m1 H1 E1 R1
    cases b with
    | true => exact iteT ⟨x, m1, ρ, S', p.ext E1 R1, PostS.shift E1 (by simpa using h)⟩
    | false => exact iteF ⟨x, m1, ρ, S', p.ext E1 R1, PostS.shift E1 (by simpa using h)⟩
/-! ### targets -/
theorem g_nam (i : Nat) {y : Str} (hN : X.N.Nodup) (hi : X.N[i]? = some y := by rfl) (hx : Loc X.env.scope y := by first | exact Or.inl rfl | exact Or.inr rfl) (hf : X.fn y = true ∨ X.env.scope.names.lookup y = some .local := by first | exact .inl rfl | exact .inr rfl) :
    PG X (.Name y pos) (tG (gOf X T) W (namG i)) := ⟨fun pins s σ H v u Q I r h => (pg_name hN hi hx hf).run pins s σ H v u Q I r (by
  obtain ⟨x, m, ρ, S, u', p, ru, h⟩ := h
  exact h m H _ Ext.refl ⟨p.env.set ru i, p.sto, p.ex, p.tab⟩)⟩
def tGs (G : Gc) (W : WX) (gs : List MG) : TGs := fun vs σ H Q => ∃ x m ρ S ds, Rp G x m H ρ S σ ∧ RVs G (x ++ m) H ds vs ∧ match allG gs ds ρ S with
  | some q => ∀ m' H' σ', Ext G m H m' H' → Rp G x m' H' q.1 q.2 σ' → Q σ' H'
  | none => False
theorem gs_nil : PGs X [] (tGs (gOf X T) W []) := ⟨fun pins s σ H vs us Q I r h => pgs_nil.run pins s σ H vs us Q I r (by
  obtain ⟨x, m, ρ, S, ds, p, rv, h⟩ := h
  cases rv with
  | nil => exact ⟨rfl, h m H σ Ext.refl p⟩
  | cons _ _ => exact h.elim)⟩
theorem gs_cons {es : List Expr} {gs : List MG} (h1 : PG X e (tG (gOf X T) W gt)) (h2 : PGs X es (tGs (gOf X T) W gs)) (hs : (assignEach (e :: es) X.env).map (·.2) = assign e X.env :: (assignEach es X.env).map (·.2) := by rfl) :
    PGs X (e :: es) (tGs (gOf X T) W (gt :: gs)) := ⟨fun pins s σ H vs us Q I r h => (pgs_cons h1 h2 hs).run pins s σ H vs us Q I r (by
  obtain ⟨x, m, ρ, S, ds, p, rv, h⟩ := h
  cases rv with
  | nil => exact h.elim
  | @cons d v ds vs r1 r2 =>
    refine ⟨v, vs, rfl, x, m, ρ, S, .d d, p, .d r1, ?_⟩
    simp only [allG] at h
    cases q : gt (.d d) ρ S with
    | none => rw [q] at h; exact h
    | some q1 =>
      rw [q] at h
      refine fun m' H' σ' E1 p1 => ⟨x, m', q1.1, q1.2, ds, p1, r2.keep E1.kp, ?_⟩
      revert h
      dsimp only
      cases allG gs ds q1.1 q1.2 with
      | some q2 => exact fun h m2 H2 σ2 E2 p2 => h m2 H2 σ2 (E1.trans E2) p2
      | none => exact fun h => h)⟩
theorem allG_len : ∀ {gs : List MG} {ds : List D} {ρ : Env} {S : Sto} {q : Env × Sto}, allG gs ds ρ S = some q → ds.length = gs.length := by
  intro gs
  induction gs with
  | nil => intro ds ρ S r q; cases ds with
    | nil => rfl
    | cons _ _ => simp [allG] at q
  | cons g gs ih => intro ds ρ S r q; cases ds with
    | nil => simp [allG] at q
    | cons d ds =>
      simp only [allG] at q
      split at q
      · simp [ih q]
      · cases q
theorem g_tup {es : List Expr} {k n : Nat} {gs : List MG} (hc : X.calm = true) (h : PGs X es (tGs (gOf X T) W gs)) (hl : gs.length = n := by rfl)
    (hn : (assignEach es X.env).length = n := by rfl) (hst : (assignEach es X.env).findIdx? (·.1) = none := by rfl) : PG X (.Tuple es k pos) (tG (gOf X T) W (tupG gs)) := ⟨fun pins s σ H v u Q I r hw => (pg_tup hc h hn hst).run pins s σ H v u Q I r (by
  obtain ⟨x, m, ρ, S, u', p, ru, hw⟩ := hw
  unfold tupG at hw
  split at hw
  · rename_i q
    split at q
    · rename_i xs
      cases ru with
      | d rr => cases rr with
        | @tup a vs _ h1 h2 =>
          refine ⟨a, vs, rfl, h1, ?_, x, m, ρ, S, xs, p, h2, by rw [q]; exact hw⟩
          rw [← h2.len, ← hl]
          exact allG_len q
    · cases q
  · exact hw.elim)⟩
theorem g_lsu {es : List Expr} {k n : Nat} {gs : List MG} (hc : X.calm = true) (h : PGs X es (tGs (gOf X T) W gs)) (hl : gs.length = n := by rfl)
    (hn : (assignEach es X.env).length = n := by rfl) (hst : (assignEach es X.env).findIdx? (·.1) = none := by rfl) : PG X (.Tuple es k pos) (tG (gOf X T) W (lsuG gs)) := ⟨fun pins s σ H v u Q I r hw => (pg_lst hc h hn hst).run pins s σ H v u Q I r (by
  obtain ⟨x, m, ρ, S, u', p, ru, hw⟩ := hw
  unfold lsuG at hw
  split at hw
  · rename_i q
    split at q
    · rename_i xs hx
      obtain ⟨a, vs, rfl, h1, h2⟩ := (ru.rt p.sto hx).lst'
      exact ⟨a, vs, rfl, .of h1, by rw [← h2.len, ← hl]; exact allG_len q, x, m, ρ, S, xs, p, h2, by rw [q]; exact hw⟩
    · cases q
  · exact hw.elim)⟩
end
end Mir

/-! Mir8: built-in functions. -/
namespace Mir
open PySem PySem.Spec PyProof.Rows L2
def biM (g : List D → Option D) (fs : List ME) : ME := fun ρ S => (argsM fs ρ S).bind fun us S1 => match rds S1 us with
  | some ds => match g ds with
    | some z => .ok (.d z) S1
    | none => .un
  | none => .un
def rC (G : Gc) (g : List D → Option D) : List V → Hp → VK → Prop := fun vs H Q => ∃ ds z e m, g ds = some z ∧ (∀ b ∈ e, ∃ o, H b = some o) ∧ RTs G e H ds vs ∧
  ∀ H' w, Ext G m H m H' → (∀ a ∈ m, H a ≠ none → H' a = H a) → RV G e H' z w → Q w H'
section
variable {X : Cx} {T : List (Addr × Str)} {W : WX} {x : Str} {p pos : Pos} {e : Expr} {es : List Expr} {fs : List ME} {id : String} {g : List D → Option D}
theorem bi_red {σ : St} {H : Hp} {Q : VK} (h : tE (gOf X T) W (biM g fs) σ H Q) : tCB (rC (gOf X T) g) (tA (gOf X T) W (argsM fs)) σ H Q := by
  obtain ⟨y, m, ρ, S, p, h⟩ := h
  refine ⟨y, m, ρ, S, p, (Post.bind h).mono fun us S1 m1 H1 E1 R1 ⟨_, _, h1⟩ vs rvs => ?_⟩
  have p1 := p.ext E1 R1
  split at h1
  · rename_i ds q1
    split at h1
    · rename_i z q3
      exact ⟨ds, z, y ++ m1, m1, q3, p1.trk, RUs.rts R1 rvs q1, fun H' w' E3 hs r => h1 m1 H' E3 (R1.stay E3 fun a ha => hs a ha (by obtain ⟨o, q⟩ := R1.live ha; rw [q]; simp)) w' (.d r)⟩
    · exact h1.elim
  · exact h1.elim
theorem e_bi (hc : CallR X (.builtin id) (rC (gOf X T) g)) (hm : X.mg x = none) (hv : bootBuiltins x = some (.builtin id)) (ha : PA X (e :: es) (tA (gOf X T) W (argsM fs))) (hg : Gl X x := by rfl) (hn : x ≠ "__name__" := by decide) (hdb : (x == ("__debug__" : Str)) = false := by decide)
    (he : starEach (e :: es) X.env = (false, eval e X.env) :: starEach es X.env := by rfl) (hpl : (backTo pos (starEach es X.env)).any (·.1) = false := by rfl) : PE X (.Call (.Name x p) (e :: es) [] pos) (tE (gOf X T) W (biM g fs)) :=
  pe_mono (pe_callB hc hg hm hv ha hn hdb he hpl) fun σ H Q h => bi_red h
theorem e_biT (hc : CallR X (.type id) (rC (gOf X T) g)) (hm : X.mg x = none) (hv : bootBuiltins x = some (.type id)) (ha : PA X (e :: es) (tA (gOf X T) W (argsM fs))) (hg : Gl X x := by rfl) (hn : x ≠ "__name__" := by decide) (hdb : (x == ("__debug__" : Str)) = false := by decide)
    (he : starEach (e :: es) X.env = (false, eval e X.env) :: starEach es X.env := by rfl) (hpl : (backTo pos (starEach es X.env)).any (·.1) = false := by rfl) : PE X (.Call (.Name x p) (e :: es) [] pos) (tE (gOf X T) W (biM g fs)) :=
  pe_mono (pe_callTy hc hg hm hv ha hn hdb he hpl) fun σ H Q h => bi_red h
end

/-! ### isinstance against a built-in type -/
inductive TyE where
  | int | bool | str | tuple | list
  deriving DecidableEq
def TyE.nm : TyE → String
  | .int => "int" | .bool => "bool" | .str => "str" | .tuple => "tuple" | .list => "list"
def isE : TyE → D → Bool
  | .int, .int _ => true
  | .int, .bl _ => true
  | .bool, .bl _ => true
  | .str, .str _ => true
  | .tuple, .tup _ => true
  | .list, .lst _ => true
  | .list, .scr _ => true
  | _, _ => false
def isdic : D → Bool
  | .dic _ _ _ => true
  | _ => false
def isM (t : TyE) (f : ME) : ME := fun ρ S => (f ρ S).bind fun u S1 => match rd S1 u with
  | some d => if isdic d = true then .un else .ok (.d (.bl (isE t d))) S1
  | none => .un
section
variable {G : Gc} {e : List Addr} {H : Hp}
def tyN : D → String
  | .non => "NoneType" | .bl _ => "bool" | .int _ => "int" | .str _ => "str" | .tup _ => "tuple" | .lst _ => "list" | .scr _ => "list" | .dic _ _ _ => "dict"
theorem sqt_ty {K : PySem.W.Frag} {a : Addr} {xs : List V} (h : SqT K H a xs) : TyX K H (.ref a) (.type "tuple") := by
  rcases h with (h | ⟨o, h⟩) | ⟨o, its, n, h1, h2, _⟩
  · exact .base (.tup h)
  · exact .fTuple h
  · exact .kTuple h1 h2
theorem RT.ty {d : D} {v : V} (r : RT G e H d v) (h : isdic d = false) : TyX G.K H v (.type (tyN d)) := by
  cases r with
  | of r => cases r with
    | non => exact .base .non
    | bl b => exact .base (.bl b)
    | int i => exact .base (.int i)
    | str x => exact .base (.str x)
    | tup h1 _ => exact sqt_ty h1
    | lst h1 _ _ => exact .base (.lst h1)
    | scr h1 =>
      rcases h1 with ⟨o, h1⟩ | ⟨o, its, n, h1, h2, _⟩
      · exact .base (.frz h1)
      · exact .kList h1 h2
    | dic _ _ _ _ => simp [isdic] at h
  | lst h1 _ => exact .base (.lst h1)
  | dic _ _ _ => simp [isdic] at h
inductive TK where
  | non | bool | int | str | tuple | list | dict
def TK.nm : TK → String
  | .non => "NoneType" | .bool => "bool" | .int => "int" | .str => "str" | .tuple => "tuple" | .list => "list" | .dict => "dict"
def isK : TyE → TK → Bool
  | .int, .int => true
  | .int, .bool => true
  | .bool, .bool => true
  | .str, .str => true
  | .tuple, .tuple => true
  | .list, .list => true
  | _, _ => false
theorem kit_tab (t : TyE) (k : TK) : kitB k.nm t.nm = some (isK t k) := by
  cases t <;> cases k <;> decide +kernel
theorem kit_is (t : TyE) (d : D) : kitB (tyN d) t.nm = some (isE t d) := by
  cases d with
  | non => exact (kit_tab t .non).trans (by cases t <;> rfl)
  | bl b => exact (kit_tab t .bool).trans (by cases t <;> rfl)
  | int b => exact (kit_tab t .int).trans (by cases t <;> rfl)
  | str b => exact (kit_tab t .str).trans (by cases t <;> rfl)
  | tup b => exact (kit_tab t .tuple).trans (by cases t <;> rfl)
  | lst b => exact (kit_tab t .list).trans (by cases t <;> rfl)
  | scr b => exact (kit_tab t .list).trans (by cases t <;> rfl)
  | dic t' k v => exact (kit_tab t .dict).trans (by cases t <;> rfl)
end
section
variable {X : Cx} {T : List (Addr × Str)} {W : WX} {x y : Str} {p p2 pos : Pos} {a : Expr} {f : ME}
theorem e_isi (t : TyE) (hm : X.mg "isinstance" = none) (hmt : X.mg y = none) (hv : bootBuiltins y = some (.type t.nm)) (ha : PE X a (tE (gOf X T) W f)) (hg : Gl X "isinstance" := by rfl) (hgt : Gl X y := by rfl) (hn : y ≠ "__name__" := by decide) (hdb : (y == ("__debug__" : Str)) = false := by decide)
    (he : starEach [a, .Name y p2] X.env = (false, eval a X.env) :: starEach [.Name y p2] X.env := by rfl) (he2 : starEach [.Name y p2] X.env = (false, eval (.Name y p2) X.env) :: starEach [] X.env := by rfl) (hpl : (backTo pos (starEach [.Name y p2] X.env)).any (·.1) = false := by rfl) :
    PE X (.Call (.Name "isinstance" p) [a, .Name y p2] [] pos) (tE (gOf X T) W (isM t f)) :=
  pe_mono (pe_callB call_isi hg hm (by decide +kernel) (pa_cons ha (pa_cons (pe_bltn (v := .ty t.nm) hgt hmt hv rfl hn hdb) pa_nil he2) he) (hpl := hpl)  (he := he)) fun σ H Q h => by
    obtain ⟨y, m, ρ, S, p, h⟩ := h
    refine ⟨y, m, ρ, S, p, (Post.bind h).mono fun u S1 m1 H1 E1 R1 ⟨_, _, h1⟩ v rv => ?_⟩
    split at h1
    · rename_i d hd
      split at h1
      · exact h1.elim
      · rename_i nd
        exact ⟨v, .ty t.nm, .type (tyN d), .type t.nm, isE t d, rfl, .ty _, (rv.rt R1 hd).ty (by simpa using nd), kit_ty (kit_is t d), h1 m1 H1 Ext.refl R1 _ (.d (.bl _))⟩
    · exact h1.elim

/-! ### len, all, any, sum, abs, .. -/
def lenG : List D → Option D
  | [.lst xs] => some (.int xs.length)
  | [.tup xs] => some (.int xs.length)
  | [.str x] => if x.length ≤ big then some (.int x.length) else none
  | [.scr xs] => some (.int xs.length)
  | _ => none
theorem RTs.one {G : Gc} {e : List Addr} {H : Hp} {d : D} {vs : List V} (r : RTs G e H [d] vs) : ∃ v, vs = [v] ∧ RT G e H d v := by
  cases r with
  | cons r t => cases t; exact ⟨_, rfl, r⟩
theorem RTs.two {G : Gc} {e : List Addr} {H : Hp} {d d' : D} {vs : List V} (r : RTs G e H [d, d'] vs) : ∃ v w, vs = [v, w] ∧ RT G e H d v ∧ RT G e H d' w := by
  cases r with
  | cons r t => cases t with
    | cons r' t => cases t; exact ⟨_, _, rfl, r, r'⟩
theorem c_len : CallR X (.builtin "len") (rC (gOf X T) lenG) := by
  intro pins s σ H vs us Q I rs ⟨ds, z, e, m, hg, tr, r, q⟩
  unfold lenG at hg
  split at hg
  · cases hg
    obtain ⟨v, rfl, r1⟩ := r.one
    obtain ⟨a, xs, rfl, h1, h2⟩ := r1.lst'
    exact call_len_seq pins s σ H _ us Q I rs ⟨a, xs, rfl, .inl (.of h1), by rw [← h2.len]; exact q _ _ Ext.refl (noKeep rfl) (.int _)⟩
  · cases hg
    obtain ⟨v, rfl, r1⟩ := r.one
    obtain ⟨a, xs, rfl, h1, h2⟩ := r1.tup
    exact call_len_seq pins s σ H _ us Q I rs ⟨a, xs, rfl, .inr h1, by rw [← h2.len]; exact q _ _ Ext.refl (noKeep rfl) (.int _)⟩
  · split at hg
    · rename_i hl
      cases hg
      obtain ⟨v, rfl, r1⟩ := r.one
      cases r1.str
      exact call_len_str pins s σ H _ us Q I rs ⟨_, rfl, big_ok hl, q _ _ Ext.refl (noKeep rfl) (.int _)⟩
    · cases hg
  · rename_i ns
    cases hg
    obtain ⟨v, rfl, r1⟩ := r.one
    obtain ⟨a, rfl, h1⟩ := r1.scr
    exact call_len_seq pins s σ H _ us Q I rs ⟨a, _, rfl, .inl h1, by rw [List.length_map]; exact q _ _ Ext.refl (noKeep rfl) (.int _)⟩
  · cases hg
/-- truths, ints of a list -/
def blsOf : List D → Option (List Bool)
  | [] => some []
  | .bl b :: ds => (blsOf ds).map (b :: ·)
  | _ => none
def intsOf : List D → Option (List Int)
  | [] => some []
  | .int b :: ds => (intsOf ds).map (b :: ·)
  | _ => none
def strsOf : List D → Option (List Str)
  | [] => some []
  | .str b :: ds => (strsOf ds).map (b :: ·)
  | _ => none
theorem RVs.bls {G : Gc} {e : List Addr} {H : Hp} : ∀ {ds : List D} {vs : List V} {bs : List Bool}, RVs G e H ds vs → blsOf ds = some bs → vs = bs.map V.bl
  | _, _, _, .nil, h => by simp [blsOf] at h; subst h; rfl
  | _, _, _, .cons r t, h => by
    unfold blsOf at h
    split at h
    · rename_i q; cases q
    · rename_i b ds q
      cases q
      obtain ⟨bs, h1, rfl⟩ := Option.map_eq_some_iff.mp h
      cases r
      rw [RVs.bls t h1]; rfl
    · cases h
theorem RVs.ints {G : Gc} {e : List Addr} {H : Hp} : ∀ {ds : List D} {vs : List V} {bs : List Int}, RVs G e H ds vs → intsOf ds = some bs → vs = bs.map V.int
  | _, _, _, .nil, h => by simp [intsOf] at h; subst h; rfl
  | _, _, _, .cons r t, h => by
    unfold intsOf at h
    split at h
    · rename_i q; cases q
    · rename_i b ds q
      cases q
      obtain ⟨bs, h1, rfl⟩ := Option.map_eq_some_iff.mp h
      cases r
      rw [RVs.ints t h1]; rfl
    · cases h
theorem RVs.strs {G : Gc} {e : List Addr} {H : Hp} : ∀ {ds : List D} {vs : List V} {bs : List Str}, RVs G e H ds vs → strsOf ds = some bs → vs = bs.map V.str
  | _, _, _, .nil, h => by simp [strsOf] at h; subst h; rfl
  | _, _, _, .cons r t, h => by
    unfold strsOf at h
    split at h
    · rename_i q; cases q
    · rename_i b ds q
      cases q
      obtain ⟨bs, h1, rfl⟩ := Option.map_eq_some_iff.mp h
      cases r
      rw [RVs.strs t h1]; rfl
    · cases h
def allB : List D → Option D
  | [.lst xs] => (blsOf xs).map fun bs => .bl (bs.all id)
  | _ => none
def anyB : List D → Option D
  | [.lst xs] => (blsOf xs).map fun bs => .bl (bs.any id)
  | _ => none
def sumG : List D → Option D
  | [.lst xs] => (intsOf xs).map fun ns => .int ns.sum
  | _ => none
def absG : List D → Option D
  | [.int i] => some (.int (if i < 0 then -i else i))
  | _ => none
theorem c_all (hc : X.calm = true) : CallR X (.builtin "all") (rC (gOf X T) allB) := by
  intro pins s σ H vs us Q I rs ⟨ds, z, e, m, hg, tr, r, q⟩
  unfold allB at hg
  split at hg
  · obtain ⟨bs, h1, rfl⟩ := Option.map_eq_some_iff.mp hg
    obtain ⟨v, rfl, r1⟩ := r.one
    obtain ⟨a, xs, rfl, g1, g2⟩ := r1.lst'
    cases g2.bls h1
    exact cr_all hc pins s σ H _ us Q I rs ⟨a, bs, rfl, .of g1, q _ _ Ext.refl (noKeep rfl) (.bl _)⟩
  · cases hg
theorem c_any (hc : X.calm = true) : CallR X (.builtin "any") (rC (gOf X T) anyB) := by
  intro pins s σ H vs us Q I rs ⟨ds, z, e, m, hg, tr, r, q⟩
  unfold anyB at hg
  split at hg
  · obtain ⟨bs, h1, rfl⟩ := Option.map_eq_some_iff.mp hg
    obtain ⟨v, rfl, r1⟩ := r.one
    obtain ⟨a, xs, rfl, g1, g2⟩ := r1.lst'
    cases g2.bls h1
    exact cr_any hc pins s σ H _ us Q I rs ⟨a, bs, rfl, .of g1, q _ _ Ext.refl (noKeep rfl) (.bl _)⟩
  · cases hg
theorem c_sum (hc : X.calm = true) : CallR X (.builtin "sum") (rC (gOf X T) sumG) := by
  intro pins s σ H vs us Q I rs ⟨ds, z, e, m, hg, tr, r, q⟩
  unfold sumG at hg
  split at hg
  · obtain ⟨bs, h1, rfl⟩ := Option.map_eq_some_iff.mp hg
    obtain ⟨v, rfl, r1⟩ := r.one
    obtain ⟨a, xs, rfl, g1, g2⟩ := r1.lst'
    cases g2.ints h1
    exact cr_sum hc pins s σ H _ us Q I rs ⟨a, bs, rfl, .of g1, q _ _ Ext.refl (noKeep rfl) (.int _)⟩
  · cases hg
theorem c_abs : CallR X (.builtin "abs") (rC (gOf X T) absG) := by
  intro pins s σ H vs us Q I rs ⟨ds, z, e, m, hg, tr, r, q⟩
  unfold absG at hg
  split at hg
  · cases hg
    obtain ⟨v, rfl, r1⟩ := r.one
    cases r1.int
    exact call_abs pins s σ H _ us Q I rs ⟨_, rfl, q _ _ Ext.refl (noKeep rfl) (.int _)⟩
  · cases hg
def intG : List D → Option D
  | [.int i] => some (.int i)
  | [.bl b] => some (.int (if b then 1 else 0))
  | [.str x] => if x.length ≤ 640 then (PySem.intText? x).map D.int else none
  | _ => none
theorem c_int : CallR X (.type "int") (rC (gOf X T) intG) := by
  intro pins s σ H vs us Q I rs ⟨ds, z, e, m, hg, tr, r, q⟩
  unfold intG at hg
  split at hg
  · cases hg
    obtain ⟨v, rfl, r1⟩ := r.one
    cases r1.int
    exact call_int1 pins s σ H _ us Q I rs (.inl ⟨_, rfl, q _ _ Ext.refl (noKeep rfl) (.int _)⟩)
  · cases hg
    obtain ⟨v, rfl, r1⟩ := r.one
    cases r1.bl
    exact call_int1 pins s σ H _ us Q I rs (.inr ⟨_, rfl, q _ _ Ext.refl (noKeep rfl) (.int _)⟩)
  · split at hg
    · rename_i hl
      obtain ⟨n, h1, rfl⟩ := Option.map_eq_some_iff.mp hg
      obtain ⟨v, rfl, r1⟩ := r.one
      cases r1.str
      exact call_int_str pins s σ H _ us Q I rs ⟨_, n, rfl, h1, hl, q _ _ Ext.refl (noKeep rfl) (.int _)⟩
    · cases hg
  · cases hg
def listG : List D → Option D
  | [.lst xs] => some (.lst xs)
  | [.tup xs] => some (.lst xs)
  | _ => none
def tupleG : List D → Option D
  | [.lst xs] => some (.tup xs)
  | [.tup xs] => some (.tup xs)
  | _ => none
theorem c_list : CallR X (.type "list") (rC (gOf X T) listG) := by
  intro pins s σ H vs us Q I rs ⟨ds, z, e, m, hg, tr, r, q⟩
  unfold listG at hg
  split at hg
  · cases hg
    obtain ⟨v, rfl, r1⟩ := r.one
    obtain ⟨a, xs, rfl, g1, g2⟩ := r1.lst'
    exact call_list_of pins s σ H _ us Q I rs ⟨a, xs, rfl, .inl (.of g1), fun l hl => q _ _ (Ext.new hl) (newKeep hl) (RV.newLst g2 hl tr)⟩
  · cases hg
    obtain ⟨v, rfl, r1⟩ := r.one
    obtain ⟨a, xs, rfl, g1, g2⟩ := r1.tup
    exact call_list_of pins s σ H _ us Q I rs ⟨a, xs, rfl, .inr g1, fun l hl => q _ _ (Ext.new hl) (newKeep hl) (RV.newLst g2 hl tr)⟩
  · cases hg
theorem c_tuple : CallR X (.type "tuple") (rC (gOf X T) tupleG) := by
  intro pins s σ H vs us Q I rs ⟨ds, z, e, m, hg, tr, r, q⟩
  unfold tupleG at hg
  split at hg
  · cases hg
    obtain ⟨v, rfl, r1⟩ := r.one
    obtain ⟨a, xs, rfl, g1, g2⟩ := r1.lst'
    exact call_tuple_of pins s σ H _ us Q I rs ⟨a, xs, rfl, .inl ⟨.of g1, fun l hl => q _ _ (Ext.new hl) (newKeep hl) (RV.newTup g2 hl tr)⟩⟩
  · cases hg
    obtain ⟨v, rfl, r1⟩ := r.one
    obtain ⟨a, xs, rfl, g1, g2⟩ := r1.tup
    exact call_tuple_of pins s σ H _ us Q I rs ⟨a, xs, rfl, .inr ⟨g1, q _ _ Ext.refl (noKeep rfl) (.tup g1 g2)⟩⟩
  · cases hg
end
end Mir

/-! Mir9: what is walked; for; while; comprehensions; cells that are forgotten. -/
namespace Mir
open PySem PySem.Spec PyProof.Rows L2 RZ
abbrev MI := Env → Sto → O (List D)
/-- J yields these data, one after another, whatever becomes of the cells -/
def Yl (G : Gc) (x m : List Addr) (H : Hp) (J : It) (ds : List D) : Prop := ∀ x2 m2 H2, (∀ b ∈ x2, b ∈ x ∨ H b = none) → Ext G m H m2 H2 → (∀ b ∈ x2 ++ m2, ∃ o, H2 b = some o) → ∀ i,
  (∀ d, ds[i]? = some d → J.go i H2 ∧ ∀ v H3, J.yld i H2 v H3 → Ext G m2 H2 m2 H3 ∧ (∀ a ∈ m2, H2 a ≠ none → H3 a = H2 a) ∧ RV G (x2 ++ m2) H3 d v) ∧ (ds.length = i → J.stop i H2)
theorem Ext.kp2 {G : Gc} {x x2 m m2 : List Addr} {H H2 : Hp} (E : Ext G m H m2 H2) (hx : ∀ b ∈ x2, b ∈ x ∨ H b = none) : Keep G (x ++ m) H (x2 ++ m2) H2 := by
  have ni : ∀ {a : Addr} {o : HO}, H a = some o → (∀ ps, o ≠ .tbl ps) → a ∉ x ++ m → a ∉ x2 ++ m2 := fun {a o} q t n z => by
    rcases List.mem_append.mp z with z | z
    · rcases hx a z with w | w
      · exact n (List.mem_append_left _ w)
      · rw [w] at q; cases q
    · exact E.notin (x := x) q t n (List.mem_append_right _ z)
  refine ⟨fun a xs h => SqT.ext E h, fun a ns h => Sc.ext E h, fun a xs h n => ⟨E.keep _ _ h (fun z => n (List.mem_append_right _ z)) (fun ps z => by cases z), ni h (fun ps z => by cases z) n⟩, fun a o t ks xs h n r => ⟨E.keep _ _ h (fun z => n (List.mem_append_right _ z)) r.notbl, ni h r.notbl n, r.ext fun a xs h => SqT.ext E h⟩⟩
def tI (G : Gc) (W : WX) (f : MI) : TI := fun σ H R => ∃ x m ρ S, Rp G x m H ρ S σ ∧ Post G W x m σ H (f ρ S) fun ds _ m' H' => ∀ J, Yl G x m' H' J ds → R J H'
section
variable {G : Gc} {x m : List Addr} {H : Hp} {a b : Addr} {ds es : List D} {xs ys : List V}
theorem yl_tup (h : SqT G.K H a xs) (r : RVs G (x ++ m) H ds xs) : Yl G x m H (Itt G.K a) ds := fun x2 m2 H2 hx E tr i => by
  have h2 := SqT.ext E h
  have r2 := r.keep (E.kp2 hx)
  refine ⟨fun d hd => ?_, fun hl => ⟨xs, h2, by rw [← r.len]; exact Nat.le_of_eq hl⟩⟩
  obtain ⟨v, q1, q2⟩ := r2.get hd
  refine ⟨⟨xs, v, h2, q1⟩, fun v' H3 ⟨e1, e2⟩ => ?_⟩
  subst e1
  have := e2 xs h2
  rw [q1] at this
  cases this
  exact ⟨Ext.refl, fun _ _ _ => rfl, q2⟩
theorem yl_lst (h : H a = some (.lst xs)) (hn : a ∉ x ++ m) (r : RVs G (x ++ m) H ds xs) : Yl G x m H (Itl G.K a) ds := fun x2 m2 H2 hx E tr i => by
  have h2 : SqL G.K H2 a xs := .of (E.keep _ _ h (fun z => hn (List.mem_append_right _ z)) (fun ps z => by cases z))
  have r2 := r.keep (E.kp2 hx)
  refine ⟨fun d hd => ?_, fun hl => ⟨xs, h2, by rw [← r.len]; exact Nat.le_of_eq hl⟩⟩
  obtain ⟨v, q1, q2⟩ := r2.get hd
  refine ⟨⟨xs, v, h2, q1⟩, fun v' H3 ⟨e1, e2⟩ => ?_⟩
  subst e1
  have := e2 xs h2
  rw [q1] at this
  cases this
  exact ⟨Ext.refl, fun _ _ _ => rfl, q2⟩
theorem yl_rng {lo : Int} {n : Nat} : Yl G x m H (Itr lo n) ((List.range n).map fun i => D.int (lo + (i : Nat))) := fun x2 m2 H2 hx E tr i => by
  refine ⟨fun d hd => ?_, fun hl => Nat.le_of_eq (by simpa using hl : n = i)⟩
  rw [List.getElem?_map] at hd
  cases q : (List.range n)[i]? with
  | none => rw [q] at hd; cases hd
  | some j =>
    rw [q] at hd
    cases hd
    have hi : i < n := by
      have := (List.getElem?_eq_some_iff.mp q).1
      simpa using this
    have hj : j = i := by
      rw [List.getElem?_range hi] at q
      exact (Option.some.inj q).symm
    subst hj
    refine ⟨hi, fun v H3 ⟨e1, e2⟩ => ?_⟩
    subst e1 e2
    exact ⟨Ext.refl, fun _ _ _ => rfl, .int _⟩
def pairs : List D → List D → List D
  | x :: xs, y :: ys => .tup [x, y] :: pairs xs ys
  | _, _ => []
theorem pairs_get : ∀ {ds es : List D} {i : Nat}, (∀ d, (pairs ds es)[i]? = some d → ∃ a b, ds[i]? = some a ∧ es[i]? = some b ∧ d = .tup [a, b]) ∧ ((pairs ds es).length ≤ i → ds.length ≤ i ∨ es.length ≤ i)
  | [], es, i => ⟨fun d h => by simp [pairs] at h, fun _ => .inl (by simp)⟩
  | d :: ds, [], i => ⟨fun d h => by simp [pairs] at h, fun _ => .inr (by simp)⟩
  | d :: ds, e :: es, 0 => ⟨fun d' h => by simp [pairs] at h; exact ⟨d, e, rfl, rfl, h.symm⟩, fun h => by simp [pairs] at h⟩
  | d :: ds, e :: es, i + 1 => by
    have := pairs_get (ds := ds) (es := es) (i := i)
    simp only [pairs, List.getElem?_cons_succ, List.length_cons, Nat.add_le_add_iff_right]
    exact this
theorem newPair {T : Addr} {v w : V} {d e : D} {H : Hp} (hT : H T = none) (tr : ∀ b ∈ x ++ m, ∃ o, H b = some o) (r1 : RV G (x ++ m) H d v) (r2 : RV G (x ++ m) H e w) :
    Ext G m H m (upd H T (.tup [v, w])) ∧ (∀ a ∈ m, H a ≠ none → upd H T (.tup [v, w]) a = H a) ∧ RV G (x ++ m) (upd H T (.tup [v, w])) (.tup [d, e]) (.ref T) :=
  ⟨Ext.new hT, fun a _ q => upd_ne fun z => q (z ▸ hT), RV.newTup (.cons r1 (.cons r2 .nil)) hT tr⟩
theorem yl_zipT (h : SqT G.K H a xs) (h' : SqT G.K H b ys) (r : RVs G (x ++ m) H ds xs) (r' : RVs G (x ++ m) H es ys) : Yl G x m H (ItzT G.K a b) (pairs ds es) := fun x2 m2 H2 hx E tr i => by
  have h2 := SqT.ext E h
  have h2' := SqT.ext E h'
  have r2 := r.keep (E.kp2 hx)
  have r2' := r'.keep (E.kp2 hx)
  refine ⟨fun d hd => ?_, fun hl => ⟨xs, ys, h2, h2', by rw [← r.len, ← r'.len]; exact pairs_get.2 (Nat.le_of_eq hl)⟩⟩
  obtain ⟨d1, d2, g1, g2, rfl⟩ := pairs_get.1 d hd
  obtain ⟨v, q1, q2⟩ := r2.get g1
  obtain ⟨v', q1', q2'⟩ := r2'.get g2
  refine ⟨⟨xs, ys, v, v', h2, h2', q1, q1'⟩, fun w H3 ⟨T, y1, y2, e1, e2, e3, e4, e5⟩ => ?_⟩
  have z1 := e4 xs h2
  have z2 := e5 ys h2'
  rw [q1] at z1
  rw [q1'] at z2
  cases z1
  cases z2
  subst e1 e3
  exact newPair e2 tr q2 q2'
theorem yl_zipL (h : H a = some (.lst xs)) (hn : a ∉ x ++ m) (h' : H b = some (.lst ys)) (hn' : b ∉ x ++ m) (r : RVs G (x ++ m) H ds xs) (r' : RVs G (x ++ m) H es ys) : Yl G x m H (Itz G.K a b) (pairs ds es) := fun x2 m2 H2 hx E tr i => by
  have h2 : SqL G.K H2 a xs := .of (E.keep _ _ h (fun z => hn (List.mem_append_right _ z)) (fun ps z => by cases z))
  have h2' : SqL G.K H2 b ys := .of (E.keep _ _ h' (fun z => hn' (List.mem_append_right _ z)) (fun ps z => by cases z))
  have r2 := r.keep (E.kp2 hx)
  have r2' := r'.keep (E.kp2 hx)
  refine ⟨fun d hd => ?_, fun hl => ⟨xs, ys, h2, h2', by rw [← r.len, ← r'.len]; exact pairs_get.2 (Nat.le_of_eq hl)⟩⟩
  obtain ⟨d1, d2, g1, g2, rfl⟩ := pairs_get.1 d hd
  obtain ⟨v, q1, q2⟩ := r2.get g1
  obtain ⟨v', q1', q2'⟩ := r2'.get g2
  refine ⟨⟨xs, ys, v, v', h2, h2', q1, q1'⟩, fun w H3 ⟨T, y1, y2, e1, e2, e3, e4, e5⟩ => ?_⟩
  have z1 := e4 xs h2
  have z2 := e5 ys h2'
  rw [q1] at z1
  rw [q1'] at z2
  cases z1
  cases z2
  subst e1 e3
  exact newPair e2 tr q2 q2'
def enums (n : Nat) : List D → List D
  | [] => []
  | d :: ds => .tup [.int (n : Nat), d] :: enums (n + 1) ds
theorem enums_get : ∀ {ds : List D} {n i : Nat}, (∀ d, (enums n ds)[i]? = some d → ∃ a, ds[i]? = some a ∧ d = .tup [.int ((n + i : Nat) : Int), a])
  | [], n, i, d, h => by simp [enums] at h
  | d :: ds, n, 0, d', h => by simp [enums] at h; exact ⟨d, rfl, h.symm⟩
  | d :: ds, n, i + 1, d', h => by
    obtain ⟨a, h1, h2⟩ := enums_get (ds := ds) (n := n + 1) (i := i) d' (by simpa [enums] using h)
    exact ⟨a, by simpa using h1, by rw [h2, show n + 1 + i = n + (i + 1) by omega]⟩
theorem enums_len : ∀ {ds : List D} {n : Nat}, (enums n ds).length = ds.length
  | [], n => rfl
  | d :: ds, n => by simp [enums, enums_len (ds := ds)]
theorem yl_enumL (h : H a = some (.lst xs)) (hn : a ∉ x ++ m) (r : RVs G (x ++ m) H ds xs) : Yl G x m H (Ite G.K a) (enums 0 ds) := fun x2 m2 H2 hx E tr i => by
  have h2 : SqL G.K H2 a xs := .of (E.keep _ _ h (fun z => hn (List.mem_append_right _ z)) (fun ps z => by cases z))
  have r2 := r.keep (E.kp2 hx)
  refine ⟨fun d hd => ?_, fun hl => ⟨xs, h2, by rw [← r.len, ← enums_len (n := 0)]; exact Nat.le_of_eq hl⟩⟩
  obtain ⟨d1, g1, rfl⟩ := enums_get d hd
  obtain ⟨v, q1, q2⟩ := r2.get g1
  refine ⟨⟨xs, v, h2, q1⟩, fun w H3 ⟨T, y1, e1, e2, e3, e4⟩ => ?_⟩
  have z1 := e4 xs h2
  rw [q1] at z1
  cases z1
  subst e1 e3
  rw [Nat.zero_add]
  exact newPair e2 tr (.int _) q2
end

/-! ### the walked expressions -/
def seqI (f : ME) : MI := fun ρ S => (f ρ S).bind fun u S1 => match u with
  | .d (.tup xs) => .ok xs S1
  | .d (.lst xs) => .ok xs S1
  | _ => .un
def rng1I (f : ME) : MI := fun ρ S => (argsM [f] ρ S).bind fun us S1 => match us with
  | [.d (.int n)] => if n ≤ 1000000 ∧ -1000000 ≤ n then .ok ((List.range n.toNat).map fun i => .int (0 + (i : Nat))) S1 else .un
  | _ => .un
def rng2I (f g : ME) : MI := fun ρ S => (argsM [f, g] ρ S).bind fun us S1 => match us with
  | [.d (.int l), .d (.int n)] => if n ≤ 1000000 ∧ -1000000 ≤ n ∧ l ≤ 1000000 ∧ -1000000 ≤ l then .ok ((List.range (n - l).toNat).map fun i => .int (l + (i : Nat))) S1 else .un
  | _ => .un
def zipI (f g : ME) : MI := fun ρ S => (argsM [f, g] ρ S).bind fun us S1 => match us with
  | [.d (.tup xs), .d (.tup ys)] => .ok (pairs xs ys) S1
  | [.d (.lst xs), .d (.lst ys)] => .ok (pairs xs ys) S1
  | _ => .un
def enuI (f : ME) : MI := fun ρ S => (argsM [f] ρ S).bind fun us S1 => match us with
  | [.d (.lst xs)] => .ok (enums 0 xs) S1
  | _ => .un
theorem pi_mono {X : Cx} {tg e : Expr} {t t' : TI} (h : PI X tg e t) (q : ∀ σ H R, t' σ H R → t σ H R) : PI X tg e t' := ⟨fun pins s σ H R I w => h.run pins s σ H R I (q σ H R w)⟩
section
variable {X : Cx} {T : List (Addr × Str)} {W : WX} {tg e e2 : Expr} {es : List Expr} {f g : ME} {fs : List ME} {p pos : Pos}
theorem i_seq (he : PE X e (tE (gOf X T) W f)) : PI X tg e (tI (gOf X T) W (seqI f)) := ⟨fun pins s σ H R I h => by
  obtain ⟨x, m, ρ, S, p, h⟩ := h
  have h1 := Post.bind h
  cases q : f ρ S with
  | un => rw [q] at h1; exact h1.elim
  | ex ee S' =>
    refine (pi_tup he).run pins s σ H R I ⟨x, m, ρ, S, p, ?_⟩
    rw [q] at h1 ⊢
    exact h1
  | ok u S' =>
    rw [q] at h1
    cases u with
    | c i => exact (pi_tup he).run pins s σ H R I ⟨x, m, ρ, S, p, by rw [q]; exact fun m' H' E r => (h1 m' H' E r).2.2.elim⟩
    | t i => exact (pi_tup he).run pins s σ H R I ⟨x, m, ρ, S, p, by rw [q]; exact fun m' H' E r => (h1 m' H' E r).2.2.elim⟩
    | d d =>
      cases d with
      | tup xs =>
        refine (pi_tup he).run pins s σ H R I ⟨x, m, ρ, S, p, ?_⟩
        rw [q]
        intro m1 H1 E1 R1 v rv
        cases rv with
        | d rv => cases rv with
          | tup t1 t2 => exact ⟨_, rfl, ⟨_, t1⟩, (h1 m1 H1 E1 R1).2.2 m1 H1 Ext.refl R1 _ (yl_tup t1 t2)⟩
      | lst xs =>
        refine (pi_list he).run pins s σ H R I ⟨x, m, ρ, S, p, ?_⟩
        rw [q]
        intro m1 H1 E1 R1 v rv
        cases rv with
        | d rv => cases rv with
          | lst t1 tn t2 => exact ⟨_, rfl, ⟨_, .of t1⟩, (h1 m1 H1 E1 R1).2.2 m1 H1 Ext.refl R1 _ (yl_lst t1 tn t2)⟩
      | _ => exact (pi_tup he).run pins s σ H R I ⟨x, m, ρ, S, p, by rw [q]; exact fun m' H' E r => (h1 m' H' E r).2.2.elim⟩⟩
theorem RUs.i1 {G : Gc} {e m : List Addr} {H : Hp} {i : Int} {vs : List V} (r : RUs G e m H [.d (.int i)] vs) : vs = [.int i] := by
  cases r with
  | cons r t => cases t; cases r with
    | d r => cases r; rfl
theorem RUs.i2 {G : Gc} {e m : List Addr} {H : Hp} {i j : Int} {vs : List V} (r : RUs G e m H [.d (.int i), .d (.int j)] vs) : vs = [.int i, .int j] := by
  cases r with
  | cons r t => cases t with
    | cons r' t => cases t; cases r with
      | d r => cases r; cases r' with
        | d r => cases r; rfl
theorem i_rng1 (hm : X.mg "range" = none) (ha : PA X [e] (tA (gOf X T) W (argsM [f]))) (hg : Gl X "range" := by rfl) (hs : starEach [e] X.env = [(false, eval e X.env)] := by rfl) : PI X tg (.Call (.Name "range" p) [e] [] pos) (tI (gOf X T) W (rng1I f)) :=
  pi_mono (pi_range1 hg hm ha hs) fun σ H R h => by
    obtain ⟨x, m, ρ, S, p, h⟩ := h
    refine ⟨x, m, ρ, S, p, (Post.bind h).mono fun us S1 m1 H1 E1 R1 ⟨_, _, h1⟩ vs rvs => ?_⟩
    split at h1
    · split at h1
      · rename_i hb
        exact ⟨_, rvs.i1, by omega, by omega, h1 m1 H1 Ext.refl R1 _ yl_rng⟩
      · exact h1.elim
    · exact h1.elim
theorem i_rng2 (hm : X.mg "range" = none) (ha : PA X [e, e2] (tA (gOf X T) W (argsM [f, g]))) (hg : Gl X "range" := by rfl) (hs : starEach [e, e2] X.env = [(false, eval e X.env), (false, eval e2 X.env)] := by rfl) (hs2 : starEach [e2] X.env = [(false, eval e2 X.env)] := by rfl) : PI X tg (.Call (.Name "range" p) [e, e2] [] pos) (tI (gOf X T) W (rng2I f g)) :=
  pi_mono (pi_range2 hg hm ha hs hs2) fun σ H R h => by
    obtain ⟨x, m, ρ, S, p, h⟩ := h
    refine ⟨x, m, ρ, S, p, (Post.bind h).mono fun us S1 m1 H1 E1 R1 ⟨_, _, h1⟩ vs rvs => ?_⟩
    split at h1
    · split at h1
      · rename_i hb
        exact ⟨_, _, rvs.i2, ⟨by omega, by omega, by omega, by omega⟩, h1 m1 H1 Ext.refl R1 _ yl_rng⟩
      · exact h1.elim
    · exact h1.elim
theorem i_zip {elts : List Expr} {kk : Nat} {tpos : Pos} (hm : X.mg "zip" = none) (ha : PA X [e, e2] (tA (gOf X T) W (argsM [f, g]))) (hg : Gl X "zip" := by rfl) (hs : starEach [e, e2] X.env = (false, eval e X.env) :: starEach [e2] X.env := by rfl) (hpl : (backTo pos (starEach [e2] X.env)).any (·.1) = false := by rfl) :
    PI X (.Tuple elts kk tpos) (.Call (.Name "zip" p) [e, e2] [] pos) (tI (gOf X T) W (zipI f g)) := pi_mono (pi_zipA hg hm ha hs hpl) fun σ H R h => by
  obtain ⟨x, m, ρ, S, p, h⟩ := h
  refine ⟨x, m, ρ, S, p, (Post.bind h).mono fun us S1 m1 H1 E1 R1 ⟨_, _, h1⟩ vs rvs => ?_⟩
  split at h1
  · cases rvs with
    | cons r t => cases t with
      | cons r' t => cases t; cases r with
        | d r => cases r with
          | tup t1 t2 => cases r' with
            | d r' => cases r' with
              | tup t3 t4 => exact ⟨_, _, _, _, rfl, .inr ⟨t1, t3, h1 m1 H1 Ext.refl R1 _ (yl_zipT t1 t3 t2 t4)⟩⟩
  · cases rvs with
    | cons r t => cases t with
      | cons r' t => cases t; cases r with
        | d r => cases r with
          | lst t1 n1 t2 => cases r' with
            | d r' => cases r' with
              | lst t3 n3 t4 => exact ⟨_, _, _, _, rfl, .inl ⟨.of t1, .of t3, h1 m1 H1 Ext.refl R1 _ (yl_zipL t1 n1 t3 n3 t2 t4)⟩⟩
  · exact h1.elim
theorem i_enu {elts : List Expr} {kk : Nat} {tpos : Pos} (hm : X.mg "enumerate" = none) (ha : PA X [e] (tA (gOf X T) W (argsM [f]))) (hg : Gl X "enumerate" := by rfl) (hs : starEach [e] X.env = [(false, eval e X.env)] := by rfl) :
    PI X (.Tuple elts kk tpos) (.Call (.Name "enumerate" p) [e] [] pos) (tI (gOf X T) W (enuI f)) := pi_mono (pi_enum hg hm ha hs) fun σ H R h => by
  obtain ⟨x, m, ρ, S, p, h⟩ := h
  refine ⟨x, m, ρ, S, p, (Post.bind h).mono fun us S1 m1 H1 E1 R1 ⟨_, _, h1⟩ vs rvs => ?_⟩
  split at h1
  · cases rvs with
    | cons r t => cases t; cases r with
      | d r => cases r with
        | lst t1 n1 t2 => exact ⟨_, _, rfl, .of t1, h1 m1 H1 Ext.refl R1 _ (yl_enumL t1 n1 t2)⟩
  · exact h1.elim
end
end Mir

/-! Mir10: for, while, comprehensions, cells that are forgotten. -/
namespace Mir
open PySem PySem.Spec PyProof.Rows L2 RZ
/-! ### for -/
def forL (g : MG) (f : MS) : List D → MS
  | [], ρ, S => .nx ρ S
  | d :: ds, ρ, S => match g (.d d) ρ S with
    | none => .un
    | some q => match f q.1 q.2 with
      | .nx ρ' S' => forL g f ds ρ' S'
      | .ct ρ' S' => forL g f ds ρ' S'
      | .bk ρ' S' => .nx ρ' S'
      | o => o
def forM (it : MI) (g : MG) (f : MS) : MS := fun ρ S => match it ρ S with
  | .ok ds S' => forL g f ds ρ S'
  | .ex e S' => .ex e ρ S'
  | .un => .un
/-- one turn of a while, n turns at most -/
def whN (t : MT) (f : MS) : Nat → MS
  | 0, _, _ => .un
  | n + 1, ρ, S => match t ρ S with
    | .ok true S' => match f ρ S' with
      | .nx ρ' S'' => whN t f n ρ' S''
      | .ct ρ' S'' => whN t f n ρ' S''
      | .bk ρ' S'' => .nx ρ' S''
      | o => o
    | .ok false S' => .nx ρ S'
    | .ex e S' => .ex e ρ S'
    | .un => .un
open Classical in
noncomputable def whM (t : MT) (f : MS) : MS := fun ρ S => if h : ∃ n, whN t f n ρ S ≠ .un then whN t f (Classical.choose h) ρ S else .un
theorem whN_more {t : MT} {f : MS} : ∀ {n k : Nat} {ρ : Env} {S : Sto}, whN t f n ρ S ≠ .un → whN t f (n + k) ρ S = whN t f n ρ S
  | 0, k, ρ, S, h => (h rfl).elim
  | n + 1, k, ρ, S, h => by
    rw [show n + 1 + k = n + k + 1 by omega]
    unfold whN at h ⊢
    split
    · rename_i S' q
      rw [q] at h
      dsimp only at h
      split
      · rename_i q2
        rw [q2] at h
        exact whN_more h
      · rename_i q2
        rw [q2] at h
        exact whN_more h
      · rfl
      · rfl
    · rfl
    · rfl
    · rfl
theorem whM_eq {t : MT} {f : MS} {n : Nat} {ρ : Env} {S : Sto} (h : whN t f n ρ S ≠ .un) : whM t f ρ S = whN t f n ρ S := by
  unfold whM
  have e : ∃ n, whN t f n ρ S ≠ .un := ⟨n, h⟩
  rw [dif_pos e]
  have h2 := Classical.choose_spec e
  rcases Nat.le_total n (Classical.choose e) with q | q
  · obtain ⟨k, hk⟩ := Nat.le.dest q
    rw [← hk, whN_more h]
  · obtain ⟨k, hk⟩ := Nat.le.dest q
    have := whN_more (k := k) h2
    rw [hk] at this
    exact this.symm
section
variable {X : Cx} {T : List (Addr × Str)} {W : WX} {tg iter c : Expr} {body : List Stmt} {gt : MG} {f : MS} {fi : MI} {tc : MT} {pos : Pos}
theorem s_for (hp : PassesOwn (model X.prog X.w) X.A X.env X.xe) (hc : X.calm = true) (hi : PI X tg iter (tI (gOf X T) W fi)) (hg : PG X tg (tG (gOf X T) W gt)) (hb : PSs X body (tS (gOf X T) W f))
    (hs : ∀ x, foldedSetIterable iter X.env x = pure x := by intro _; rfl) : PS X (.For tg iter body [] pos) (tS (gOf X T) W (forM fi gt f)) := ps_mono (ps_for hp hc hi hg hb hs) fun Dn σ H h => by
  obtain ⟨x, m, ρ, S, p, h⟩ := h
  cases q : fi ρ S with
  | un => simp only [forM, q] at h; exact h.elim
  | ex ee S' =>
    refine ⟨x, m, ρ, S, p, ?_⟩
    simp only [forM, q] at h
    rw [q]
    exact fun m' H' cls d E R rx => h m' H' σ cls d E (p.ext E R) rx
  | ok ds S' =>
    refine ⟨x, m, ρ, S, p, ?_⟩
    simp only [forM, q] at h
    rw [q]
    intro m1 H1 E1 R1 J hJ
    have h := PostS.shift E1 h
    have p1 := p.ext E1 R1
    refine ⟨fun i k σ2 H2 => ∃ m2 ρ2 S2, k = ds.length - i ∧ i ≤ ds.length ∧ Ext (gOf X T) m1 H1 m2 H2 ∧ Rp (gOf X T) x m2 H2 ρ2 S2 σ2 ∧ PostS (gOf X T) W x m2 H2 (forL gt f (ds.drop i) ρ2 S2) Dn,
      ⟨ds.length, m1, ρ, S', by simp, Nat.zero_le _, Ext.refl, p1, by rw [List.drop_zero]; exact h⟩, ?_⟩
    rintro i k σ2 H2 ⟨m2, ρ2, S2, rfl, hi', E2, p2, h2⟩
    have hy := hJ x m2 H2 (fun b hb => .inl hb) E2 p2.trk i
    by_cases hl : i < ds.length
    · obtain ⟨hgo, hyl⟩ := hy.1 ds[i] (List.getElem?_eq_getElem hl)
      rw [List.drop_eq_getElem_cons hl] at h2
      refine .inr ⟨hgo, fun σ3 H3 => ∃ m3 ρ3 S3, Ext (gOf X T) m1 H1 m3 H3 ∧ Rp (gOf X T) x m3 H3 ρ3 S3 σ3 ∧ PostS (gOf X T) W x m3 H3 (forL gt f (ds.drop (i + 1)) ρ3 S3) Dn, ?_, ?_⟩
      · rintro σ3 H3 ⟨m3, ρ3, S3, E3, p3, h3⟩
        exact ⟨ds.length - (i + 1), by omega, m3, ρ3, S3, rfl, hl, E3, p3, h3⟩
      · intro v H3 yv
        obtain ⟨E3, k3, r3⟩ := hyl v H3 yv
        have R3 : RS (gOf X T) (x ++ m2) m2 H3 S2 := p2.sto.stay E3 fun a ha => k3 a ha (by obtain ⟨o, q⟩ := p2.sto.live ha; rw [q]; simp)
        have p3 := p2.ext E3 R3
        refine ⟨x, m2, ρ2, S2, .d ds[i], p3, .d r3, ?_⟩
        simp only [forL] at h2
        cases q3 : gt (.d ds[i]) ρ2 S2 with
        | none => rw [q3] at h2; exact h2.elim
        | some q4 =>
          rw [q3] at h2
          refine fun m4 H4 σ4 E4 p4 => ⟨x, m4, q4.1, q4.2, p4, ?_⟩
          have h2 := PostS.shift (E3.trans E4) h2
          have E14 := (E2.trans E3).trans E4
          dsimp only at h2
          cases q5 : f q4.1 q4.2 with
          | nx ρ5 S5 =>
            rw [q5] at h2
            exact fun m5 H5 σ5 E5 p5 => ⟨m5, ρ5, S5, E14.trans E5, p5, PostS.shift E5 h2⟩
          | ct ρ5 S5 =>
            rw [q5] at h2
            exact fun m5 H5 σ5 E5 p5 => ⟨m5, ρ5, S5, E14.trans E5, p5, PostS.shift E5 h2⟩
          | bk ρ5 S5 => rw [q5] at h2; exact h2
          | rt u S5 => rw [q5] at h2; exact h2
          | ex ee ρ5 S5 => rw [q5] at h2; exact h2
          | un => rw [q5] at h2; exact h2
    · have e : i = ds.length := by omega
      refine .inl ⟨hy.2 (by omega), ?_⟩
      rw [e, List.drop_length] at h2
      exact h2 m2 H2 σ2 Ext.refl p2
theorem s_while (hp : PassesOwn (model X.prog X.w) X.A X.env X.xe) (hc : PT X c (tT (gOf X T) W tc)) (hb : PSs X body (tS (gOf X T) W f)) : PS X (.While c body [] pos) (tS (gOf X T) W (whM tc f)) := ps_mono (ps_while hp hc hb) fun Dn σ H h => by
  obtain ⟨x, m, ρ, S, p, h⟩ := h
  have hn : ∃ n, PostS (gOf X T) W x m H (whN tc f n ρ S) Dn := by
    unfold whM at h
    split at h
    · exact ⟨_, h⟩
    · exact h.elim
  obtain ⟨n, h⟩ := hn
  refine ⟨fun k σ2 H2 => ∃ m2 ρ2 S2, Rp (gOf X T) x m2 H2 ρ2 S2 σ2 ∧ PostS (gOf X T) W x m2 H2 (whN tc f k ρ2 S2) Dn, ⟨n, m, ρ, S, p, h⟩, ?_⟩
  rintro k σ2 H2 ⟨m2, ρ2, S2, p2, h2⟩
  refine ⟨x, m2, ρ2, S2, p2, ?_⟩
  cases k with
  | zero => exact h2.elim
  | succ k =>
    unfold whN at h2
    cases q : tc ρ2 S2 with
    | un => rw [q] at h2; exact h2
    | ex ee S' => rw [q] at h2; exact fun m' H' cls d E R rx => h2 m' H' σ2 cls d E (p2.ext E R) rx
    | ok b S' =>
      rw [q] at h2
      intro m3 H3 E3 R3
      have p3 := p2.ext E3 R3
      have h2 := PostS.shift E3 h2
      cases b with
      | false => exact iteF (h2 m3 H3 σ2 Ext.refl p3)
      | true =>
        refine iteT ⟨fun σ4 H4 => ∃ m4 ρ4 S4, Rp (gOf X T) x m4 H4 ρ4 S4 σ4 ∧ PostS (gOf X T) W x m4 H4 (whN tc f k ρ4 S4) Dn, fun σ4 H4 ⟨m4, ρ4, S4, p4, h4⟩ => ⟨k, Nat.lt_succ_self _, m4, ρ4, S4, p4, h4⟩, x, m3, ρ2, S', p3, ?_⟩
        dsimp only at h2
        cases q5 : f ρ2 S' with
        | nx ρ5 S5 => rw [q5] at h2; exact fun m5 H5 σ5 E5 p5 => ⟨m5, ρ5, S5, p5, PostS.shift E5 h2⟩
        | ct ρ5 S5 => rw [q5] at h2; exact fun m5 H5 σ5 E5 p5 => ⟨m5, ρ5, S5, p5, PostS.shift E5 h2⟩
        | bk ρ5 S5 => rw [q5] at h2; exact h2
        | rt u S5 => rw [q5] at h2; exact h2
        | ex ee ρ5 S5 => rw [q5] at h2; exact h2
        | un => rw [q5] at h2; exact h2
end

/-! ### cells that are forgotten -/
def wipeE (ρ : Env) : List Nat → Env
  | [] => ρ
  | i :: is => wipeE (ρ.set i none) is
def lowU (n : Nat) : Option U → Bool
  | some (.c i) => decide (i < n)
  | some (.t _) => false
  | _ => true
def scpM (dead : List Nat) (f : MS) : MS := fun ρ S => match f ρ S with
  | .nx ρ' S' => if (wipeE ρ' dead).all (lowU S.length) then .nx (wipeE ρ' dead) (S'.take S.length) else .un
  | .ct ρ' S' => if (wipeE ρ' dead).all (lowU S.length) then .ct (wipeE ρ' dead) (S'.take S.length) else .un
  | o => o
section
variable {G : Gc} {x m m' : List Addr} {H H' : Hp}
theorem RE.wipe {e : List Addr} : ∀ (is : List Nat) {ρ : Env} {σ : St}, RE G e m H ρ σ → RE G e m H (wipeE ρ is) σ
  | [], _, _, r => r
  | i :: is, _, _, r => RE.wipe is (RE.wipe1 i r)
theorem RE.low {n : Nat} : ∀ {ρ : Env} {σ : St}, RE G (x ++ m) m H ρ σ → ρ.all (lowU n) = true → RE G (x ++ m.take n) (m.take n) H ρ σ
  | _, _, .nil, _ => .nil
  | _, _, .em t, h => .em (RE.low t (by simpa [lowU] using h))
  | _, _, .cns r t, h => by
    rw [List.all_cons, Bool.and_eq_true] at h
    refine .cns ?_ (RE.low t h.2)
    cases r with
    | d r => exact .d (r.keep (keep_sub fun a ha => by
        rcases List.mem_append.mp ha with z | z
        · exact List.mem_append_left _ z
        · exact List.mem_append_right _ (List.mem_of_mem_take z)))
    | @c i a ha =>
      have hi : i < n := by simpa [lowU] using h.1
      exact .c (by rw [List.getElem?_take_of_lt hi]; exact ha)
    | t _ _ => simp [lowU] at h
theorem Rp.low {n : Nat} {ρ : Env} {S : Sto} {σ : St} (p : Rp G x m H ρ S σ) (h : ρ.all (lowU n) = true) : Rp G x (m.take n) H ρ (S.take n) σ := by
  refine ⟨p.env.low h, ⟨by rw [List.length_take, List.length_take, p.sto.len], p.sto.nd.sublist (List.take_sublist _ _), fun b hb => List.mem_append_right _ hb, fun i a c h1 h2 => ?_⟩, p.ex, p.tab⟩
  have hi : i < n := by
    by_cases q : i < n
    · exact q
    · rw [List.getElem?_take_eq_none (by omega)] at h1; cases h1
  rw [List.getElem?_take_of_lt hi] at h1 h2
  obtain ⟨o, q1, q2⟩ := p.sto.at' i a c h1 h2
  exact ⟨o, q1, q2.keep (keep_sub fun a ha => by
    rcases List.mem_append.mp ha with z | z
    · exact List.mem_append_left _ z
    · exact List.mem_append_right _ (List.mem_of_mem_take z)) fun _ _ z => z⟩
theorem Ext.take {S : Sto} {e : List Addr} (E : Ext G m H m' H') (r : RS G e m H S) : Ext G m H (m'.take S.length) H' := by
  obtain ⟨nw, e1, f1⟩ := E.pre
  refine ⟨E.keep, E.tups, E.frzs, E.owns, E.live, ⟨[], ?_, fun _ z => by cases z⟩, E.tab⟩
  rw [e1, ← r.len, List.take_left', List.append_nil]
  rfl
end
section
variable {X : Cx} {T : List (Addr × Str)} {W : WX} {body : List Stmt} {f : MS}
theorem s_scp (dead : List Nat) (hb : PSs X body (tS (gOf X T) W f)) : PSs X body (tS (gOf X T) W (scpM dead f)) := pss_mono hb fun Dn σ H h => by
  obtain ⟨x, m, ρ, S, p, h⟩ := h
  refine ⟨x, m, ρ, S, p, ?_⟩
  unfold scpM at h
  cases q : f ρ S with
  | nx ρ' S' =>
    rw [q] at h
    dsimp only at h
    split at h
    · rename_i hl
      intro m' H' σ' E1 p1
      have p2 : Rp (gOf X T) x m' H' (wipeE ρ' dead) S' σ' := ⟨p1.env.wipe dead, p1.sto, p1.ex, p1.tab⟩
      exact h (m'.take S.length) H' σ' (E1.take p.sto) (p2.low hl)
    · exact h.elim
  | ct ρ' S' =>
    rw [q] at h
    dsimp only at h
    split at h
    · rename_i hl
      intro m' H' σ' E1 p1
      have p2 : Rp (gOf X T) x m' H' (wipeE ρ' dead) S' σ' := ⟨p1.env.wipe dead, p1.sto, p1.ex, p1.tab⟩
      exact h (m'.take S.length) H' σ' (E1.take p.sto) (p2.low hl)
    · exact h.elim
  | rt u S' => rw [q] at h; exact h
  | bk ρ' S' => rw [q] at h; exact h
  | ex e ρ' S' => rw [q] at h; exact h
  | un => rw [q] at h; exact h
end
end Mir

/-! Mir11: list comprehensions. -/
namespace Mir
open PySem PySem.Spec PyProof.Rows L2 RZ
inductive Tg where
  | one (i : Nat) | many (is : List Nat)
def Tg.ix : Tg → List Nat
  | .one i => [i]
  | .many is => is
def setMany : List Nat → List D → Env → Option Env
  | [], [], ρ => some ρ
  | i :: is, d :: ds, ρ => setMany is ds (ρ.set i (some (.d d)))
  | _, _, _ => none
def setT : Tg → D → Env → Option Env
  | .one i, d, ρ => some (ρ.set i (some (.d d)))
  | .many is, .tup ds, ρ => setMany is ds ρ
  | _, _, _ => none
def gNames : List Nat → TGs
  | [] => gNil
  | i :: is => gCons (gName i) (gNames is)
def gT (K : PySem.W.Frag) : Tg → TG
  | .one i => gName i
  | .many is => gTup K is.length (gNames is)
/-- a list made by a comprehension: t tests, f makes -/
def lcL (tg : Tg) (t : MT) (f : ME) (ρ0 : Env) : List D → Sto → O (List D)
  | [], S => .ok [] S
  | d :: ds, S => match setT tg d ρ0 with
    | none => .un
    | some ρ => match t ρ S with
      | .ok true S1 => match f ρ S1 with
        | .ok (.d y) S2 => match lcL tg t f ρ0 ds S2 with
          | .ok ys S3 => .ok (y :: ys) S3
          | _ => .un
        | _ => .un
      | .ok false S1 => lcL tg t f ρ0 ds S1
      | _ => .un
def lcM (it : MI) (tg : Tg) (t : MT) (f : ME) (own : List Nat) : ME := fun ρ S => (it ρ S).bind fun ds S1 =>
  if ds.length ≤ big then match lcL tg t f (wipeE ρ own) ds S1 with
    | .ok ys S2 => .ok (.d (.lst ys)) S2
    | _ => .un
  else .un
def yesM : MT := fun _ S => .ok true S
abbrev WF : WX := fun _ _ _ _ => False

section
variable {G : Gc} {e m x : List Addr} {H : Hp}
theorem wipe_set {own : List Nat} {i : Nat} {o : Option V} : ∀ {σ : St}, i ∈ own → L2.wipe (σ.set i o) own = L2.wipe σ own := by
  intro σ h
  have key : ∀ (own : List Nat) (σ : St) (i : Nat) (o : Option V), L2.wipe (σ.set i o) own = if i ∈ own then L2.wipe σ own else (L2.wipe σ own).set i o := by
    intro own
    induction own with
    | nil => intro σ i o; simp [L2.wipe]
    | cons v vs ih =>
      intro σ i o
      unfold L2.wipe
      rw [ih σ i o]
      by_cases h1 : i ∈ vs
      · rw [if_pos h1, if_pos (List.mem_cons_of_mem _ h1)]
      · rw [if_neg h1]
        by_cases h2 : i = v
        · subst h2
          rw [if_pos List.mem_cons_self, List.set_set]
        · rw [if_neg (by simp [h1, h2]), List.set_comm _ _ h2]
  rw [key, if_pos h]
theorem many_ok : ∀ {is : List Nat} {ds : List D} {vs : List V} {ρ ρ' : Env} {σ : St} {own : List Nat} {Q : St → Hp → Prop}, RVs G e H ds vs → RE G e m H ρ σ → setMany is ds ρ = some ρ' → (∀ i ∈ is, i ∈ own) →
    (∀ σ', RE G e m H ρ' σ' → L2.wipe σ' own = L2.wipe σ own → Q σ' H) → gNames is vs σ H Q
  | [], [], _, ρ, ρ', σ, own, Q, .nil, re, h, _, q => by
    cases h
    exact ⟨rfl, q σ re rfl⟩
  | i :: is, d :: ds, _, ρ, ρ', σ, own, Q, .cons r t, re, h, ho, q =>
    ⟨_, _, rfl, many_ok t (RE.set (.d r) i re) h (fun j hj => ho j (List.mem_cons_of_mem _ hj)) fun σ' re' hw => q σ' re' (by rw [hw, wipe_set (ho i List.mem_cons_self)])⟩
  | [], _ :: _, _, _, _, _, _, _, _, _, h, _, _ => by simp [setMany] at h
  | _ :: _, [], _, _, _, _, _, _, _, _, h, _, _ => by simp [setMany] at h
theorem setMany_len : ∀ {is : List Nat} {ds : List D} {ρ ρ' : Env}, setMany is ds ρ = some ρ' → ds.length = is.length
  | [], [], _, _, _ => rfl
  | i :: is, d :: ds, _, _, h => by simp [setMany_len (is := is) (ds := ds) h]
  | [], _ :: _, _, _, h => by simp [setMany] at h
  | _ :: _, [], _, _, h => by simp [setMany] at h
theorem tg_ok {tg : Tg} {d : D} {v : V} {ρ ρ' : Env} {σ : St} {own : List Nat} {Q : St → Hp → Prop} (r : RV G e H d v) (re : RE G e m H ρ σ) (h : setT tg d ρ = some ρ') (ho : ∀ i ∈ tg.ix, i ∈ own)
    (q : ∀ σ', RE G e m H ρ' σ' → L2.wipe σ' own = L2.wipe σ own → Q σ' H) : gT G.K tg v σ H Q := by
  cases tg with
  | one i =>
    cases h
    exact q _ (RE.set (.d r) i re) (wipe_set (ho i (by simp [Tg.ix])))
  | many is =>
    cases r with
    | tup h1 h2 => exact ⟨_, _, rfl, h1, by rw [← h2.len]; exact setMany_len h, many_ok h2 re h ho q⟩
    | _ => simp [setT] at h
theorem RE.wipeS {e m : List Addr} : ∀ (is : List Nat) {ρ : Env} {σ : St}, RE G e m H ρ σ → RE G e m H (wipeE ρ is) (L2.wipe σ is) := by
  have one : ∀ {ρ : Env} {σ : St} (i : Nat), RE G e m H ρ σ → RE G e m H (ρ.set i none) (σ.set i none) := by
    intro ρ σ i r
    induction r generalizing i with
    | nil => exact .nil
    | em t ih => cases i with
      | zero => exact .em t
      | succ i => exact .em (ih i)
    | cns r t ih => cases i with
      | zero => exact .em t
      | succ i => exact .cns r (ih i)
  have two : ∀ (is : List Nat) (i : Nat) (ρ : Env), (wipeE ρ is).set i none = wipeE (ρ.set i none) is := by
    intro is
    induction is with
    | nil => intro i ρ; rfl
    | cons j is ih =>
      intro i ρ
      unfold wipeE
      rw [ih]
      by_cases h : i = j
      · subst h; rfl
      · rw [List.set_comm _ _ h]
  intro is
  induction is with
  | nil => intro ρ σ r; exact r
  | cons i is ih =>
    intro ρ σ r
    unfold L2.wipe wipeE
    rw [← two]
    exact one i (ih r)
/-- the list that grows is kept apart -/
theorem Keep.hide {D₀ : Addr} {o : HO} (h : H D₀ = none) : Keep G e H (D₀ :: e) (upd H D₀ o) := by
  have ni : ∀ {a : Addr} {u : HO}, H a = some u → a ∉ e → a ∉ D₀ :: e := fun {a u} q n z => by
    rcases List.mem_cons.mp z with z | z
    · rw [z, h] at q; cases q
    · exact n z
  refine ⟨fun a xs q => sqt_new h q, fun a ns q => Sc.ext (G := G) (m := []) (m' := []) (Ext.new h) q, fun a xs q n => ⟨by rw [upd_ne (ne_of_none q h)]; exact q, ni q n⟩, fun a u t ks xs q n r => ⟨by rw [upd_ne (ne_of_none q h)]; exact q, ni q n, r.ext fun _ _ z => sqt_new h z⟩⟩
theorem Keep.grow {D₀ : Addr} {acc acc' : List V} (h : H D₀ = some (.lst acc)) (hd : D₀ ∈ e) : Keep G e H e (upd H D₀ (.lst acc')) := by
  have ne : ∀ {a : Addr}, a ∉ e → a ≠ D₀ := fun {a} n z => n (z ▸ hd)
  refine ⟨fun a xs q => ?_, fun a xs q => ?_, fun a xs q n => ⟨by rw [upd_ne (ne n)]; exact q, n⟩, fun a u t ks xs q n r => ⟨by rw [upd_ne (ne n)]; exact q, n, r.ext fun b ys z => ?_⟩⟩
  · rcases q with (q | ⟨o, q⟩) | q
    · exact .inl (.inl (by rw [upd_ne (fun z => by rw [z, h] at q; cases q)]; exact q))
    · exact .inl (.inr ⟨o, by rw [upd_ne (fun z => by rw [z, h] at q; cases q)]; exact q⟩)
    · exact .inr q
  · rcases q with ⟨o, q⟩ | q
    · exact .inl ⟨o, by rw [upd_ne (fun z => by rw [z, h] at q; cases q)]; exact q⟩
    · exact .inr q
  · rcases z with (q | ⟨o, q⟩) | q
    · exact .inl (.inl (by rw [upd_ne (fun z => by rw [z, h] at q; cases q)]; exact q))
    · exact .inl (.inr ⟨o, by rw [upd_ne (fun z => by rw [z, h] at q; cases q)]; exact q⟩)
    · exact .inr q
theorem RW.keep' {m : List Addr} {e' : List Addr} {H' : Hp} (k : Keep G e H e' H') : ∀ {us : List (D ⊕ Nat)} {vs : List V}, RW G e m H us vs → RW G e' m H' us vs
  | _, _, .nil => .nil
  | _, _, .d r t => .d (r.keep k) (RW.keep' k t)
  | _, _, .c h t => .c h (RW.keep' k t)
theorem RE.keep {m : List Addr} {e' : List Addr} {H' : Hp} (k : Keep G e H e' H') : ∀ {ρ : Env} {σ : St}, RE G e m H ρ σ → RE G e' m H' ρ σ
  | _, _, .nil => .nil
  | _, _, .em t => .em (RE.keep k t)
  | _, _, .cns r t => .cns (by cases r with
    | d r => exact .d (r.keep k)
    | c h => exact .c h
    | t h r => exact .t (k.tup _ _ h) (r.keep' k)) (RE.keep k t)
theorem RS.keep {m : List Addr} {e' : List Addr} {H' : Hp} {S : Sto} (k : Keep G e H e' H') (r : RS G e m H S) (hi : ∀ b ∈ m, b ∈ e') (ha : ∀ a ∈ m, H' a = H a) (ho : ∀ b y, H b = some (.own y) → H' b = some (.own y)) : RS G e' m H' S :=
  ⟨r.len, r.nd, hi, fun i a c h1 h2 => by
    obtain ⟨o, q1, q2⟩ := r.at' i a c h1 h2
    exact ⟨o, by rw [ha a (List.mem_of_getElem? h1)]; exact q1, q2.keep k ho⟩⟩
theorem Ext.grow {m' : List Addr} {H0 H' : Hp} {D₀ : Addr} {acc acc' : List V} (E : Ext G m H0 m' H') (h0 : H0 D₀ = none) (h : H' D₀ = some (.lst acc)) : Ext G m H0 m' (upd H' D₀ (.lst acc')) := by
  have ne : ∀ {b : Addr} {o : HO}, H0 b = some o → b ≠ D₀ := fun {b o} q z => by rw [z, h0] at q; cases q
  refine ⟨fun b o q n t => by rw [upd_ne (ne q)]; exact E.keep b o q n t, fun b xs q => by rw [upd_ne (ne q)]; exact E.tups b xs q, fun b o u q => by rw [upd_ne (ne q)]; exact E.frzs b o u q,
    fun b a q => by rw [upd_ne (ne q)]; exact E.owns b a q, fun b q => by
      obtain ⟨o, q1, q2⟩ := E.live b q
      by_cases z : b = D₀
      · rw [z]; exact ⟨_, upd_same, fun ps z => by cases z⟩
      · exact ⟨o, by rw [upd_ne z]; exact q1, q2⟩, E.pre, fun t p hp => ?_⟩
  obtain ⟨ps, g1, g2, g3⟩ := E.tab t p hp
  refine ⟨ps, by rw [upd_ne (fun z => by rw [z, h] at g1; cases g1)]; exact g1, g2, fun pos cv hc => ?_⟩
  obtain ⟨c, g4, g5⟩ := g3 pos cv hc
  exact ⟨c, g4, by rw [upd_ne (fun z => by rw [z, h] at g5; cases g5)]; exact g5⟩
end

theorem wipe_idem (own : List Nat) : ∀ σ : St, L2.wipe (L2.wipe σ own) own = L2.wipe σ own := by
  have key : ∀ (vs own : List Nat) (σ : St), (∀ i ∈ vs, i ∈ own) → L2.wipe (L2.wipe σ vs) own = L2.wipe σ own := by
    intro vs
    induction vs with
    | nil => intro own σ _; rfl
    | cons v vs ih =>
      intro own σ h
      show L2.wipe ((L2.wipe σ vs).set v none) own = _
      rw [wipe_set (h v List.mem_cons_self)]
      exact ih own σ fun i hi => h i (List.mem_cons_of_mem _ hi)
  exact fun σ => key own own σ fun _ h => h
section
variable {X : Cx} {T : List (Addr × Str)} {W : WX}
theorem ts_nil : PTs X [] (tT (gOf X T) W yesM) := ⟨fun pins s σ H Q I h => pts_nil.run pins s σ H Q I (by
  obtain ⟨x, m, ρ, S, p, h⟩ := h
  exact h m H Ext.refl p.sto)⟩
theorem ts_one {c : Expr} {t : MT} (h : PT X c (tT (gOf X T) W t)) : PTs X [c] (tT (gOf X T) W t) := pts_one h
theorem lc_red {fi : MI} {t : MT} {f : ME} {tgt : Tg} {own : List Nat} (ho : ∀ i ∈ tgt.ix, i ∈ own) {σ : St} {H : Hp} {Q : VK} (h : tE (gOf X T) W (lcM fi tgt t f own) σ H Q) :
    tLc (tI (gOf X T) W fi) (gT X.K tgt) (tT (gOf X T) WF t) (tE (gOf X T) WF f) own σ H Q := by
  obtain ⟨x, m, ρ, S, p, h⟩ := h
  refine ⟨x, m, ρ, S, p, (Post.bind h).mono fun ds S1 m1 H1 E1 R1 ⟨_, _, h1⟩ J hJ => fun D₀ hD => ?_⟩
  have p1 := p.ext E1 R1
  split at h1
  case isFalse => exact h1.elim
  case isTrue hbig =>
  cases hL : lcL tgt t f (wipeE ρ own) ds S1 with
  | un => rw [hL] at h1; exact h1.elim
  | ex ee S' => rw [hL] at h1; exact h1.elim
  | ok ys Sf =>
    rw [hL] at h1
    refine ⟨fun i k H2 => ∃ m2 S2 acc vacc rest, k = ds.length - i ∧ i ≤ ds.length ∧ Ext (gOf X T) m1 H1 m2 H2 ∧ Rp (gOf X T) (D₀ :: x) m2 H2 (wipeE ρ own) S2 (L2.wipe σ own) ∧ H2 D₀ = some (.lst vacc) ∧
      RVs (gOf X T) (D₀ :: x ++ m2) H2 acc vacc ∧ vacc.length ≤ i ∧ lcL tgt t f (wipeE ρ own) (ds.drop i) S2 = .ok rest Sf ∧ ys = acc ++ rest ∧ D₀ ∉ m2,
      ⟨ds.length, m1, S1, [], [], ys, by simp, Nat.zero_le _, Ext.new hD, ⟨(RE.wipeS own p1.env).keep (Keep.hide hD), R1.keep (Keep.hide hD) (fun b hb => List.mem_cons_of_mem _ (List.mem_append_right _ hb)) (fun a ha => by
          obtain ⟨u, q⟩ := R1.live ha
          rw [upd_ne (ne_of_none q hD)]) (fun b y q => by rw [upd_ne (ne_of_none q hD)]; exact q), fun b hb => ?_, p1.tab.ext fun b u q => by rw [upd_ne (ne_of_none q hD)]; exact q⟩, upd_same, .nil, Nat.zero_le _, by rw [List.drop_zero]; exact hL, rfl, fun z => by
          obtain ⟨u, q⟩ := R1.live z
          rw [hD] at q; cases q⟩, ?_⟩
    · rcases List.mem_cons.mp hb with z | z
      · rw [z]; exact ⟨_, upd_same, fun ps z => by cases z⟩
      · obtain ⟨u, q, qn⟩ := p1.ex b z
        exact ⟨u, by rw [upd_ne (ne_of_none q hD)]; exact q, qn⟩
    rintro i k H2 ⟨m2, S2, acc, vacc, rest, rfl, hi, E2, p2, hd2, r2, hv, hl, hy, nD⟩
    have hY := hJ (D₀ :: x) m2 H2 (fun b hb => by
      rcases List.mem_cons.mp hb with z | z
      · exact .inr (by rw [z]; exact hD)
      · exact .inl z) E2 p2.trk i
    by_cases hlt : i < ds.length
    · obtain ⟨hgo, hyl⟩ := hY.1 ds[i] (List.getElem?_eq_getElem hlt)
      rw [List.drop_eq_getElem_cons hlt] at hl
      simp only [lcL] at hl
      refine .inr ⟨hgo, fun H3 => ∃ m3 S3 acc vacc rest, Ext (gOf X T) m1 H1 m3 H3 ∧ Rp (gOf X T) (D₀ :: x) m3 H3 (wipeE ρ own) S3 (L2.wipe σ own) ∧ H3 D₀ = some (.lst vacc) ∧
        RVs (gOf X T) (D₀ :: x ++ m3) H3 acc vacc ∧ vacc.length ≤ i + 1 ∧ lcL tgt t f (wipeE ρ own) (ds.drop (i + 1)) S3 = .ok rest Sf ∧ ys = acc ++ rest ∧ D₀ ∉ m3,
        fun H3 ⟨m3, S3, acc, vacc, rest, a1, a2, a3, a4, a5, a6, a7, a8⟩ => ⟨ds.length - (i + 1), by omega, m3, S3, acc, vacc, rest, rfl, hlt, a1, a2, a3, a4, a5, a6, a7, a8⟩, fun v H3 yv => ?_⟩
      obtain ⟨E3, k3, r3⟩ := hyl v H3 yv
      have R3 : RS (gOf X T) (D₀ :: x ++ m2) m2 H3 S2 := p2.sto.stay E3 fun a ha => k3 a ha (by obtain ⟨o, q⟩ := p2.sto.live ha; rw [q]; simp)
      have p3 := p2.ext E3 R3
      cases hs : setT tgt ds[i] (wipeE ρ own) with
      | none => rw [hs] at hl; cases hl
      | some ρ' =>
        rw [hs] at hl
        dsimp only at hl
        refine tg_ok r3 p3.env hs ho fun σ' re' hw => ⟨by rw [hw, wipe_idem], ?_⟩
        have q3 : Rp (gOf X T) (D₀ :: x) m2 H3 ρ' S2 σ' := ⟨re', R3, p3.ex, p3.tab⟩
        have nD' : ∀ {m m' : List Addr} {H H' : Hp}, Ext (gOf X T) m H m' H' → D₀ ∉ m → Nt H D₀ → D₀ ∉ m' := fun E n q z => by
          obtain ⟨nw, e1, f1⟩ := E.pre
          rw [e1] at z
          rcases List.mem_append.mp z with z | z
          · exact n z
          · exact f1 _ z q
        have d3 : H3 D₀ = some (.lst vacc) := E3.keep _ _ hd2 nD (fun ps z => by cases z)
        refine ⟨D₀ :: x, m2, ρ', S2, q3, ?_⟩
        cases ht : t ρ' S2 with
        | un => rw [ht] at hl; cases hl
        | ex ee S' => rw [ht] at hl; cases hl
        | ok b S3 =>
          rw [ht] at hl
          intro m4 H4 E4 R4
          have q4 := q3.ext E4 R4
          have d4 : H4 D₀ = some (.lst vacc) := E4.keep _ _ d3 nD (fun ps z => by cases z)
          have n4 := nD' E4 nD ⟨_, d3, fun ps z => by cases z⟩
          cases b with
          | false =>
            refine iteF ⟨m4, S3, acc, vacc, rest, (E2.trans E3).trans E4, ⟨(p3.ext E4 R4).env, R4, (p3.ext E4 R4).ex, (p3.ext E4 R4).tab⟩, d4, r2.keep ((E3.trans E4).kp), by omega, hl, hy, n4⟩
          | true =>
            refine iteT ⟨D₀ :: x, m4, ρ', S3, q4, ?_⟩
            dsimp only at hl
            cases hf : f ρ' S3 with
            | un => rw [hf] at hl; cases hl
            | ex ee S' => rw [hf] at hl; cases hl
            | ok u S4 =>
              rw [hf] at hl
              cases u with
              | c j => cases hl
              | t j => cases hl
              | d y =>
                dsimp only at hl
                cases hr : lcL tgt t f (wipeE ρ own) (ds.drop (i + 1)) S4 with
                | un => rw [hr] at hl; cases hl
                | ex ee S' => rw [hr] at hl; cases hl
                | ok rest' S5 =>
                  rw [hr] at hl
                  cases hl
                  intro m5 H5 E5 R5 w rw'
                  have d5 : H5 D₀ = some (.lst vacc) := E5.keep _ _ d4 n4 (fun ps z => by cases z)
                  have n5 := nD' E5 n4 ⟨_, d4, fun ps z => by cases z⟩
                  have E35 := (E3.trans E4).trans E5
                  have p5 := p2.ext E35 R5
                  have kg : Keep (gOf X T) (D₀ :: x ++ m5) H5 (D₀ :: x ++ m5) (upd H5 D₀ (.lst (vacc ++ [w]))) := Keep.grow d5 List.mem_cons_self
                  refine ⟨vacc, d5, Nat.lt_of_le_of_lt hv (Nat.lt_of_lt_of_le hlt (big_ok hbig)), m5, S4, acc ++ [y], vacc ++ [w], rest', (E2.trans E35).grow hD d5, ⟨p5.env.keep kg, R5.keep kg (fun b hb => List.mem_append_right _ hb) (fun a ha => upd_ne fun z => n5 (z ▸ ha)) (fun b y q => by
                      rw [upd_ne (fun z => by rw [z, d5] at q; cases q)]; exact q), fun b hb => ?_, ?_⟩, upd_same, ?_, by simp; omega, hr, by rw [hy]; simp, n5⟩
                  · by_cases z : b = D₀
                    · rw [z]; exact ⟨_, upd_same, fun ps z => by cases z⟩
                    · obtain ⟨o, q, qn⟩ := p5.ex b hb
                      exact ⟨o, by rw [upd_ne z]; exact q, qn⟩
                  · exact ((E2.trans E35).grow hD d5).tab p1.tab
                  · refine (RVs.append (r2.keep E35.kp) (.cons ?_ .nil)).keep kg
                    cases rw' with
                    | d r => exact r
    · have e : i = ds.length := by omega
      rw [e, List.drop_length] at hl
      cases hl
      rw [List.append_nil] at hy
      subst hy
      refine .inl ⟨hY.2 (by omega), ?_⟩
      have ks : Keep (gOf X T) (D₀ :: x ++ m2) H2 (x ++ m2) H2 := keep_sub fun a ha => List.mem_cons_of_mem _ ha
      refine h1 m2 H2 E2 (p2.sto.keep ks (fun b hb => List.mem_append_right _ hb) (fun _ _ => rfl) fun _ _ q => q) _ (.d (.lst hd2 (fun z => ?_) (r2.keep ks)))
      rcases List.mem_append.mp z with z | z
      · obtain ⟨o, q, _⟩ := p1.ex _ z
        rw [hD] at q; cases q
      · exact nD z
variable {elt tg iter : Expr} {ifs : List Expr} {scope : Scope} {own : List (Str × Nat)} {pos spos : Pos} {fi : MI} {t : MT} {f : ME}
theorem e_lc (tgt : Tg) (own : List (Str × Nat)) (hc : X.calm = true) (hN : X.N.Nodup) (hi : PI X tg iter (tI (gOf X T) W fi)) (ok : BlkOk X.N X.env.scope scope own)
    (hg : ∀ (s : Shared) (H : Hp) (C : Addr) (cl : List (Str × Addr)) (fp : List Addr), PG (X.blk s H scope (compEnvC scope cl C X.env) fp) tg (gT X.K tgt))
    (ht : ∀ (s : Shared) (H : Hp) (C : Addr) (cl : List (Str × Addr)) (fp : List Addr), Takes (X.blk s H scope (compEnvC scope cl C X.env) fp) WF → PTs (X.blk s H scope (compEnvC scope cl C X.env) fp) ifs (tT (gOf (X.blk s H scope (compEnvC scope cl C X.env) fp) T) WF t))
    (he : ∀ (s : Shared) (H : Hp) (C : Addr) (cl : List (Str × Addr)) (fp : List Addr), Takes (X.blk s H scope (compEnvC scope cl C X.env) fp) WF → PE (X.blk s H scope (compEnvC scope cl C X.env) fp) elt (tE (gOf (X.blk s H scope (compEnvC scope cl C X.env) fp) T) WF f))
    (ho : ∀ i ∈ tgt.ix, i ∈ own.map (·.2)) (hs : ∀ x, foldedSetIterable iter X.env x = pure x := by intro _; rfl) : PE X (.ListComp elt [⟨tg, iter, ifs, 0⟩] scope pos) (tE (gOf X T) W (lcM fi tgt t f (own.map (·.2)))) :=
  pe_mono (pe_lc hc hN hi ok hg (fun s H C cl fp => ht s H C cl fp takes0) (fun s H C cl fp => he s H C cl fp takes0) hs) fun σ H Q h => lc_red ho h
theorem s_lc (i : Nat) (tgt : Tg) (own : List (Str × Nat)) {y : Str} {py : Pos} (hc : X.calm = true) (hN : X.N.Nodup) (hi : PI X tg iter (tI (gOf X T) W fi)) (ok : BlkOk X.N X.env.scope scope own)
    (hg : ∀ (s : Shared) (H : Hp) (C : Addr) (cl : List (Str × Addr)) (fp : List Addr), PG (X.blk s H scope (compEnvC scope cl C X.env) fp) tg (gT X.K tgt))
    (ht : ∀ (s : Shared) (H : Hp) (C : Addr) (cl : List (Str × Addr)) (fp : List Addr), Takes (X.blk s H scope (compEnvC scope cl C X.env) fp) WF → PTs (X.blk s H scope (compEnvC scope cl C X.env) fp) ifs (tT (gOf (X.blk s H scope (compEnvC scope cl C X.env) fp) T) WF t))
    (he : ∀ (s : Shared) (H : Hp) (C : Addr) (cl : List (Str × Addr)) (fp : List Addr), Takes (X.blk s H scope (compEnvC scope cl C X.env) fp) WF → PE (X.blk s H scope (compEnvC scope cl C X.env) fp) elt (tE (gOf (X.blk s H scope (compEnvC scope cl C X.env) fp) T) WF f))
    (ho : ∀ i ∈ tgt.ix, i ∈ own.map (·.2)) (hsw : swapsWith (.ListComp elt [⟨tg, iter, ifs, 0⟩] scope pos) (some (.Name y py)) spos.line X.env = pure true) (hy : X.N[i]? = some y := by rfl) (hyl : X.env.scope.names.lookup y = some .local := by rfl) (hs : ∀ x, foldedSetIterable iter X.env x = pure x := by intro _; rfl) :
    PS X (.Assign [.Name y py] (.ListComp elt [⟨tg, iter, ifs, 0⟩] scope pos) spos) (tS (gOf X T) W (asgM (lcM fi tgt t f (own.map (·.2))) (namG i))) :=
  ps_mono (ps_setLc hc hN hy hyl hsw hi ok hg (fun s H C cl fp => ht s H C cl fp takes0) (fun s H C cl fp => he s H C cl fp takes0) hs) fun Dn σ H h => by
    refine lc_red (W := W) (f := f) (t := t) ho ?_
    obtain ⟨x, m, ρ, S, p, h⟩ := h
    refine ⟨x, m, ρ, S, p, (Post.toS h p).mono fun u S1 m1 H1 E1 R1 ⟨_, _, h1⟩ v rv => ?_⟩
    have p1 := p.ext E1 R1
    exact h1 m1 H1 _ Ext.refl ⟨p1.env.set rv i, p1.sto, p1.ex, p1.tab⟩
end
end Mir

/-! Mir12: several names at once; raise. -/
namespace Mir
open PySem PySem.Spec PyProof.Rows L2 RZ
def setUs : List Nat → List U → Env → Env
  | i :: is, u :: us, ρ => setUs is us (ρ.set i (some u))
  | _, _, ρ => ρ
def parsM (is : List Nat) (fs : List ME) : MS := fun ρ S => match argsM fs ρ S with
  | .ok us S' => if us.length = is.length then .nx (setUs is us ρ) S' else .un
  | .ex e S' => .ex e ρ S'
  | .un => .un
section
variable {G : Gc} {e m : List Addr} {H : Hp}
theorem us_ok : ∀ {is : List Nat} {us : List U} {vs : List V} {ρ : Env} {σ : St} {Q : St → Hp → Prop}, RUs G e m H us vs → RE G e m H ρ σ → us.length = is.length → (∀ σ', RE G e m H (setUs is us ρ) σ' → Q σ' H) → gNames is vs σ H Q
  | [], [], _, ρ, σ, Q, .nil, re, _, q => ⟨rfl, q σ re⟩
  | i :: is, u :: us, _, ρ, σ, Q, .cons r t, re, h, q => ⟨_, _, rfl, us_ok t (RE.set r i re) (by simpa using h) q⟩
  | [], _ :: _, _, _, _, _, _, _, h, _ => by simp at h
  | _ :: _, [], _, _, _, _, _, _, h, _ => by simp at h
end
section
variable {X : Cx} {T : List (Addr × Str)} {W : WX} {es ts : List Expr} {fs : List ME} {is : List Nat} {pos pt pt2 : Pos} {kt k2 : Nat}
theorem gns_nil : PGs X [] (gNames []) := pgs_nil
theorem gns_cons {i : Nat} {e : Expr} (h1 : PG X e (gName i)) (h2 : PGs X es (gNames is)) (hs : (assignEach (e :: es) X.env).map (·.2) = assign e X.env :: (assignEach es X.env).map (·.2) := by rfl) : PGs X (e :: es) (gNames (i :: is)) := pgs_cons h1 h2 hs
/-- a tuple of names, a tuple of values: no exchange -/
theorem s_par (is : List Nat) (hc : X.calm = true) (ha : PA X es (tA (gOf X T) W (argsM fs))) (hg : PGs X ts (gNames is)) (hl : Nat.ble fs.length 1000 = true := by rfl) (hn : (assignEach ts X.env).length = is.length := by rfl) (hst : (assignEach ts X.env).findIdx? (·.1) = none := by rfl)
    (hs : swapsWithSole [.Tuple ts kt pt] (.Tuple es k2 pt2) pos.line X.env = pure false := by rfl) (hw : swappedStores [.Tuple ts kt pt] (.Tuple es k2 pt2) X.env = pure none := by rfl)
    (h1 : (assignEach [.Tuple ts kt pt] X.env).map (·.2) = [assign (.Tuple ts kt pt) X.env] := by rfl) : PS X (.Assign [.Tuple ts kt pt] (.Tuple es k2 pt2) pos) (tS (gOf X T) W (parsM is fs)) := ps_mono (ps_asg (pe_tup ha) (pg_tup hc hg hn hst) hs hw h1) fun Dn σ H h => by
  obtain ⟨x, m, ρ, S, p, h⟩ := h
  cases q : argsM fs ρ S with
  | un => simp only [parsM, q] at h; exact h.elim
  | ex ee S' =>
    refine ⟨x, m, ρ, S, p, ?_⟩
    simp only [parsM, q] at h
    rw [q]
    exact fun m' H' cls d E R rx => h m' H' σ cls d E (p.ext E R) rx
  | ok us S' =>
    refine ⟨x, m, ρ, S, p, ?_⟩
    rw [q]
    intro m1 H1 E1 R1 vs rvs
    have p1 := p.ext E1 R1
    have hn' : vs.length = fs.length := by rw [← RUs.length rvs, argsM_len q]
    refine ⟨Nat.le_of_lt (small1000 (by rw [hn']; exact Nat.le_of_ble_eq_true hl)), fun a np => ?_⟩
    simp only [parsM, q] at h
    split at h
    · rename_i hlen
      have E2 : Ext (gOf X T) m1 H1 m1 (upd H1 a (.tup vs)) := Ext.new np
      have p2 := p1.ext E2 (R1.new np)
      refine ⟨a, vs, rfl, .inl (.inl upd_same), by rw [← RUs.length rvs]; exact hlen, us_ok (rvs.ext E2) p2.env hlen fun σ' re => ?_⟩
      exact h m1 _ σ' (E1.trans E2) ⟨re, p2.sto, p2.ex, p2.tab⟩
    · exact h.elim
/-- two local names on a line: the stores are exchanged -/
theorem s_par2 (i j : Nat) {x y : Str} {a b : Expr} {px py : Pos} (hc : X.calm = true) (hN : X.N.Nodup) (ha : PA X [a, b] (tA (gOf X T) W (argsM fs))) (hij : i ≠ j := by decide) (hi : X.N[i]? = some x := by rfl) (hj : X.N[j]? = some y := by rfl)
    (hx : X.env.scope.names.lookup x = some .local := by rfl) (hy : X.env.scope.names.lookup y = some .local := by rfl)
    (hw : swappedStores [.Tuple [.Name x px, .Name y py] kt pt] (.Tuple [a, b] k2 pt2) X.env = pure (some [x, y]) := by rfl)
    (hs : swapsWithSole [.Tuple [.Name x px, .Name y py] kt pt] (.Tuple [a, b] k2 pt2) pos.line X.env = pure false := by rfl) :
    PS X (.Assign [.Tuple [.Name x px, .Name y py] kt pt] (.Tuple [a, b] k2 pt2) pos) (tS (gOf X T) W (parsM [i, j] fs)) := ps_mono (ps_par hc hN hi hj hij hx hy ha hw hs) fun Dn σ H h => by
  obtain ⟨x, m, ρ, S, p, h⟩ := h
  cases q : argsM fs ρ S with
  | un => simp only [parsM, q] at h; exact h.elim
  | ex ee S' =>
    refine ⟨x, m, ρ, S, p, ?_⟩
    simp only [parsM, q] at h
    rw [q]
    exact fun m' H' cls d E R rx => h m' H' σ cls d E (p.ext E R) rx
  | ok us S' =>
    refine ⟨x, m, ρ, S, p, ?_⟩
    rw [q]
    intro m1 H1 E1 R1 vs rvs
    have p1 := p.ext E1 R1
    simp only [parsM, q] at h
    split at h
    · rename_i hlen
      cases rvs with
      | nil => simp at hlen
      | cons r t => cases t with
        | nil => simp at hlen
        | cons r' t => cases t with
          | nil => exact ⟨_, _, rfl, h m1 H1 _ E1 ⟨RE.set r' j (RE.set r i p1.env), p1.sto, p1.ex, p1.tab⟩⟩
          | cons _ _ => simp at hlen
    · exact h.elim
def tPar3 (i j k : Nat) (ta : TA) : TS := fun D σ H => ta σ H fun vs H1 => ∃ v w z, vs = [v, w, z] ∧ D.nx (((σ.set i (some v)).set j (some w)).set k (some z)) H1
theorem ps_par3 {i j k : Nat} {x y z : Str} {a b c : Expr} {ta : TA} {px py pz : Pos} (hc : X.calm = true) (hN : X.N.Nodup) (hi : X.N[i]? = some x) (hj : X.N[j]? = some y) (hk : X.N[k]? = some z) (hij : i ≠ j) (hik : i ≠ k) (hjk : j ≠ k)
    (hx : X.env.scope.names.lookup x = some .local) (hy : X.env.scope.names.lookup y = some .local) (hz : X.env.scope.names.lookup z = some .local) (ha : PA X [a, b, c] ta)
    (hw : swappedStores [.Tuple [.Name x px, .Name y py, .Name z pz] kt pt] (.Tuple [a, b, c] k2 pt2) X.env = pure (some [x, y, z]))
    (hs : swapsWithSole [.Tuple [.Name x px, .Name y py, .Name z pz] kt pt] (.Tuple [a, b, c] k2 pt2) pos.line X.env = pure false) :
    PS X (.Assign [.Tuple [.Name x px, .Name y py, .Name z pz] kt pt] (.Tuple [a, b, c] k2 pt2) pos) (tPar3 i j k ta) := ⟨fun pins s σ H D I h => by
  rw [exec_Assign_arm]
  refine wpAny_bind (wpAny_standAt ?_)
  rw [hs]
  refine wpAny_bind (wpAny_pure ?_)
  rw [if_neg (by decide)]
  refine wpAny_bind (Tuple_ (thn (ha.run _ pins s σ H _ I h) fun us s1 ⟨vs, H1, I1, r1, q1⟩ => ?_))
  obtain ⟨v, w, t, e1, q1⟩ := q1
  subst e1
  obtain ⟨u1, u2, u3, rfl, r2, r3, r4⟩ : ∃ u1 u2 u3, us = [u1, u2, u3] ∧ RelV v u1 ∧ RelV w u2 ∧ RelV t u3 := by
    cases r1 with
    | cons a1 b1 => cases b1 with
      | cons a2 b2 => cases b2 with
        | cons a3 b3 => cases b3; exact ⟨_, _, _, rfl, a1, a2, a3⟩
  refine wpAny_newObj_type ?_ (by show 3 ≤ sizeLine; decide)
  have I2 : Inv X pins σ H1 { s1 with heap := s1.heap.push { cls := .type "tuple", data := .seq [u1, u2, u3].toArray } } := I1.kept (t' := s1.toks) fun b o e => Heap.get?_push_of_some _ e
  rw [hw]
  refine wpAny_bind (wpAny_pure ?_)
  show wpAny (model X.prog X.w) X.A (do rule "assign.swapped-stores"; let items ← unpackItems (.ref s1.heap.objs.size) 3 none; assignInOrder [fun v => bindName X.env z v, fun v => bindName X.env y v, fun v => bindName X.env x v] items.reverse; pure Flow.next) _ _ _
  refine wpAny_bind (wpAny_rule (wpAny_bind (unpackItems_tuple (items := #[u1, u2, u3]) (I.ok.hd hc) (IsTup.new s1.heap _) fun h' hx' => ?_)))
  have I3 := I2.kept (h' := h') (t' := s1.toks) fun b o e => hx' b o (Nat.ne_of_lt (Heap.lt_size e)) e
  show wpAny _ _ (assignInOrder [fun v => bindName X.env z v, fun v => bindName X.env y v, fun v => bindName X.env x v] [u3, u2, u1] >>= fun _ => pure Flow.next) _ _ _
  refine wpAny_bind (assignInOrder_cons (wpAny_bindName (store_ok I3 hN hk (.inl hz) r4 (fun s2 I4 => ?_) (.inr hz))))
  refine assignInOrder_cons (wpAny_bindName (store_ok I4 hN hj (.inl hy) r3 (fun s3 I5 => ?_) (.inr hy)))
  refine assignInOrder_cons (wpAny_bindName (store_ok I5 hN hi (.inl hx) r2 (fun s4 I6 => assignInOrder_nil (wpAny_pure ?_)) (.inr hx)))
  rw [List.set_comm _ _ (Ne.symm hjk), List.set_comm _ _ (Ne.symm hik), List.set_comm _ _ (Ne.symm hij)] at I6
  exact ⟨_, H1, I6, q1⟩⟩
theorem s_par3 (i j k : Nat) {x y z : Str} {a b c : Expr} {px py pz : Pos} (hc : X.calm = true) (hN : X.N.Nodup) (ha : PA X [a, b, c] (tA (gOf X T) W (argsM fs))) (hij : i ≠ j := by decide) (hik : i ≠ k := by decide) (hjk : j ≠ k := by decide) (hi : X.N[i]? = some x := by rfl) (hj : X.N[j]? = some y := by rfl) (hk : X.N[k]? = some z := by rfl)
    (hx : X.env.scope.names.lookup x = some .local := by rfl) (hy : X.env.scope.names.lookup y = some .local := by rfl) (hz : X.env.scope.names.lookup z = some .local := by rfl)
    (hw : swappedStores [.Tuple [.Name x px, .Name y py, .Name z pz] kt pt] (.Tuple [a, b, c] k2 pt2) X.env = pure (some [x, y, z]) := by rfl)
    (hs : swapsWithSole [.Tuple [.Name x px, .Name y py, .Name z pz] kt pt] (.Tuple [a, b, c] k2 pt2) pos.line X.env = pure false := by rfl) :
    PS X (.Assign [.Tuple [.Name x px, .Name y py, .Name z pz] kt pt] (.Tuple [a, b, c] k2 pt2) pos) (tS (gOf X T) W (parsM [i, j, k] fs)) := ps_mono (ps_par3 hc hN hi hj hk hij hik hjk hx hy hz ha hw hs) fun Dn σ H h => by
  obtain ⟨x, m, ρ, S, p, h⟩ := h
  cases q : argsM fs ρ S with
  | un => simp only [parsM, q] at h; exact h.elim
  | ex ee S' =>
    refine ⟨x, m, ρ, S, p, ?_⟩
    simp only [parsM, q] at h
    rw [q]
    exact fun m' H' cls d E R rx => h m' H' σ cls d E (p.ext E R) rx
  | ok us S' =>
    refine ⟨x, m, ρ, S, p, ?_⟩
    rw [q]
    intro m1 H1 E1 R1 vs rvs
    have p1 := p.ext E1 R1
    simp only [parsM, q] at h
    split at h
    · rename_i hlen
      cases rvs with
      | nil => simp at hlen
      | cons r t => cases t with
        | nil => simp at hlen
        | cons r' t => cases t with
          | nil => simp at hlen
          | cons r'' t => cases t with
            | nil => exact ⟨_, _, _, rfl, h m1 H1 _ E1 ⟨RE.set r'' k (RE.set r' j (RE.set r i p1.env)), p1.sto, p1.ex, p1.tab⟩⟩
            | cons _ _ => simp at hlen
    · exact h.elim

/-! ### raise X("..") of a class without its own __init__ -/
structure XC (G : Gc) (x : Str) : Prop where
  ex : ∃ C, G.mg x = some (.ref C) ∧ PySem.W.excIn G.K C [.type "ValueError", .type "Exception", .type "BaseException", .type "object"] "ValueError.__new__" = true ∧ PySem.W.keepIn G.K (.ref C) = true ∧
    PySem.W.subIn G.K (.ref C) (.type "BaseException") = some true ∧ PySem.W.typeIn G.K (.ref C) = some (.type "type")
theorem s_rai {x m : Str} {j : Nat} {p p2 ps pos : Pos} (h : XC (gOf X T) x) (hc : X.calm = true) (tk : Takes X W) (hg : Gl X x := by rfl) (hdb : (x == ("__debug__" : Str)) = false := by decide) :
    PS X (.Raise (some (.Call (.Name x p) [.Constant (.str m) j p2] [] ps)) none pos) (tS (gOf X T) W (raiM { cls := x })) := by
  obtain ⟨C, h1, h2, h3, h4, h5⟩ := h.ex
  refine ps_mono (ps_raise hc tk (pmk_own PySem.F.excBase_ValueError h2 h1 h3 (raises_own h4 h5) hg hdb)) fun Dn σ H h => ?_
  obtain ⟨y, m, ρ, S, p, h⟩ := h
  exact h m H σ (.ref C) none Ext.refl p ⟨C, rfl, h1, trivial⟩
end
end Mir

/-! Mir13: cells that are changed: o[i] = v, append; dicts that are made. -/
namespace Mir
open PySem PySem.Spec PyProof.Rows L2 RZ
def dputV : List NestedKey → List D → NestedKey → D → List D
  | k :: ks, v :: vs, x, d => if k = x then d :: vs else v :: dputV ks vs x d
  | _, vs, _, _ => vs
def dput (ks : List NestedKey) (vs : List D) (x : NestedKey) (d : D) : List NestedKey × List D := if x ∈ ks then (ks, dputV ks vs x d) else (ks ++ [x], vs ++ [d])
def setC : Cell → D → D → Option Cell
  | .lst xs, .int i, d => (ixN xs.length i).map fun j => .lst (xs.set j d)
  | .dic false ks vs, .int i, d => if ks.length < big then some (.dic false (dput ks vs (.num i) d).1 (dput ks vs (.num i) d).2) else none
  | .dic false ks vs, .str x, d => if ks.length < big then some (.dic false (dput ks vs (.text x) d).1 (dput ks vs (.text x) d).2) else none
  | .dic true ks vs, .tup xs, d => match toN (.tup xs) with
    | some k => if k.depth ≤ 8 ∧ ks.length < big then some (.dic true (dput ks vs k d).1 (dput ks vs k d).2) else none
    | none => none
  | _, _, _ => none
section
variable {G : Gc} {e m x : List Addr} {H : Hp}
theorem Ext.upd1 {a : Addr} {o o' : HO} (h : H a = some o) (h1 : ∀ xs, o ≠ .tup xs) (h2 : ∀ b u, o ≠ .frz b u) (h3 : ∀ b, o ≠ .own b) (h4 : ∀ ps, o ≠ .tbl ps) (h5 : ∀ c q, a = c → o ≠ LamX.CodeO c q) (h6 : ∀ ps, o' ≠ .tbl ps := by intro ps z; cases z) : Ext G [a] H [a] (upd H a o') := by
  have ne : ∀ {b : Addr} {u : HO}, H b = some u → o ≠ u → b ≠ a := fun {b u} q n z => n (by rw [z, h] at q; exact Option.some.inj q)
  refine ⟨fun b u q n t => ?_, fun b u q => ?_, fun b u w q => ?_, fun b u q => ?_, fun b q => ?_, ⟨[], by simp, fun _ z => by cases z⟩, fun t p hp => ?_⟩
  · rw [upd_ne (fun z => n (by simp [z]))]; exact q
  · rw [upd_ne (ne q (h1 _))]; exact q
  · rw [upd_ne (ne q (h2 _ _))]; exact q
  · rw [upd_ne (ne q (h3 _))]; exact q
  · by_cases z : b = a
    · rw [z]; exact ⟨_, upd_same, h6⟩
    · obtain ⟨u, q, qn⟩ := q
      exact ⟨u, by rw [upd_ne z]; exact q, qn⟩
  · obtain ⟨ps, g1, g2, g3⟩ := t p hp
    refine ⟨ps, by rw [upd_ne (ne g1 (h4 _))]; exact g1, g2, fun pos cv hc => ?_⟩
    obtain ⟨c, g4, g5⟩ := g3 pos cv hc
    refine ⟨c, g4, ?_⟩
    have hca : c ≠ a := fun z => h5 c p.2 z.symm (Option.some.inj (h.symm.trans (z ▸ g5)))
    rw [upd_ne hca]
    exact g5
/-- what is kept at a cell's change -/
theorem Keep.upd1 {a : Addr} {o o' : HO} (h : H a = some o) (h1 : ∀ xs, o ≠ .tup xs) (h2 : ∀ b u, o ≠ .frz b u) (ha : a ∈ e) : Keep G e H e (upd H a o') := by
  have ne : ∀ {b : Addr}, b ∉ e → b ≠ a := fun {b} n z => n (z ▸ ha)
  have ne2 : ∀ {b : Addr} {u : HO}, H b = some u → o ≠ u → b ≠ a := fun {b u} q n z => n (by rw [z, h] at q; exact Option.some.inj q)
  have st : ∀ b xs, SqT G.K H b xs → SqT G.K (upd H a o') b xs := fun b xs q => by
    rcases q with (q | ⟨u, q⟩) | q
    · exact .inl (.inl (by rw [upd_ne (ne2 q (h1 _))]; exact q))
    · exact .inl (.inr ⟨u, by rw [upd_ne (ne2 q (h2 _ _))]; exact q⟩)
    · exact .inr q
  refine ⟨st, fun b xs q => ?_, fun b xs q n => ⟨by rw [upd_ne (ne n)]; exact q, n⟩, fun b u t ks xs q n r => ⟨by rw [upd_ne (ne n)]; exact q, n, r.ext st⟩⟩
  rcases q with ⟨u, q⟩ | q
  · exact .inl ⟨u, by rw [upd_ne (ne2 q (h2 _ _))]; exact q⟩
  · exact .inr q
end
/-! dicts: what is there, what comes -/
section
variable {G : Gc} {e : List Addr} {H : Hp}
theorem zip_map_put (k : Key) (v : V) : ∀ {kk : List Key} {xs : List V}, kk.length = xs.length → (kk.zip xs).map (fun kv => if kv.1 = k then (kv.1, v) else kv) = kk.zip ((kk.zip xs).map fun kv => if kv.1 = k then v else kv.2)
  | [], [], _ => rfl
  | j :: kk, x :: xs, h => by
    simp only [List.zip_cons_cons, List.map_cons]
    rw [zip_map_put k v (by simpa using h)]
    congr 1
    by_cases q : j = k <;> simp [q]
  | [], _ :: _, h => by simp at h
  | _ :: _, [], h => by simp at h
theorem putV_rvs {k : Key} {v : V} {d : D} (r : RV G e H d v) : ∀ {kk : List Key} {xs : List V} {ds : List D}, kk.length = xs.length → kk.Nodup → RVs G e H ds xs → RVs G e H (dputV (kk.map kN) ds (kN k) d) ((kk.zip xs).map fun kv => if kv.1 = k then v else kv.2)
  | [], [], _, _, _, .nil => .nil
  | j :: kk, x :: xs, y :: ds, h, hn, .cons r1 r2 => by
    simp only [List.map_cons, List.zip_cons_cons, dputV]
    obtain ⟨n1, n2⟩ := List.nodup_cons.mp hn
    by_cases q : j = k
    · subst q
      rw [if_pos rfl, if_pos rfl]
      refine .cons r ?_
      have : ∀ (l : List Key) (zs : List V), j ∉ l → l.length = zs.length → (l.zip zs).map (fun kv => if kv.1 = j then v else kv.2) = zs := by
        intro l
        induction l with
        | nil => intro zs _ hl; cases zs with
          | nil => rfl
          | cons _ _ => simp at hl
        | cons a l ih => intro zs hn hl; cases zs with
          | nil => simp at hl
          | cons z zs =>
            simp only [List.mem_cons, not_or] at hn
            simp only [List.zip_cons_cons, List.map_cons]
            rw [if_neg (fun z => hn.1 z.symm), ih zs hn.2 (by simpa using hl)]
      rw [this kk xs n1 (by simpa using h)]
      exact r2
    · rw [if_neg (fun z => q (kN_inj z)), if_neg q]
      exact .cons r1 (putV_rvs r (by simpa using h) n2 r2)
  | [], _ :: _, _, h, _, _ => by simp at h
  | _ :: _, [], _, h, _, _ => by simp at h
theorem any_zip (k : Key) : ∀ {kk : List Key} {xs : List V}, kk.length = xs.length → ((kk.zip xs).any fun kv => decide (kv.1 = k)) = decide (kN k ∈ kk.map kN)
  | [], [], _ => by simp
  | j :: kk, x :: xs, h => by
    simp only [List.zip_cons_cons, List.any_cons, List.map_cons, List.mem_cons]
    rw [any_zip k (by simpa using h)]
    by_cases q : j = k
    · subst q; simp
    · have : ¬ kN k = kN j := fun z => q (kN_inj z.symm)
      simp [q, this]
  | [], _ :: _, h => by simp at h
  | _ :: _, [], h => by simp at h
end
section
variable {X : Cx} {T : List (Addr × Str)} {pins : List (Addr × Obj)} {s : Shared} {σ : St} {H : Hp}
theorem dk_nodup {a : Addr} {kk : List Key} {xs : List V} (I : Inv X pins σ H s) (h : H a = some (.dK (kk.zip xs))) (hl : kk.length = xs.length) : kk.Nodup := by
  obtain ⟨_, _, vs, rel, o, es, ep, h1, h2, h3, h4, h5⟩ := dk_of I.hok h
  have e : ∀ {l : List (Key × V)} {m : List (Key × Value)}, KV l m → m.map (·.1) = l.map (·.1) := by
    intro l m q
    induction q with
    | nil => rfl
    | cons q _ ih => simp [ih, q.1]
  have h6 : (vs.map (·.1)).Nodup := h5.2
  rw [e rel] at h6
  rw [show (kk.zip xs).map (·.1) = kk from List.map_fst_zip (by omega)] at h6
  exact h6

theorem code_ne {a : Addr} {o : HO} (I : Inv X pins σ H s) (h : H a = some o) (hd : ∀ ob : Obj, s.heap.get? a = some ob → ∀ vs, ob.data ≠ .fields vs) : ∀ c q, a = c → o ≠ LamX.CodeO c q := fun c q e z => by
  subst e z
  obtain ⟨⟨oc, vs, t, h1, h2, _⟩, _⟩ := I.hok a _ h
  exact hd oc h1 vs h2
theorem lst_code {a c : Addr} {xs : List V} {q : Str} : HO.lst xs ≠ LamX.CodeO c q := fun z => by unfold LamX.CodeO at z; cases z
theorem dK_code {c : Addr} {xs : List (Key × V)} {q : Str} : HO.dK xs ≠ LamX.CodeO c q := fun z => by unfold LamX.CodeO at z; cases z
theorem ins_code {C dx c : Addr} {xs : List (Str × V)} {q : Str} : HO.ins C dx xs ≠ LamX.CodeO c q := fun z => by unfold LamX.CodeO at z; cases z
/-- a cell is set: by values -/
def rSet (G : Gc) : TSet := fun o i v H Q => ∃ e a c ob key d c', o = .ref a ∧ a ∈ e ∧ H a = some ob ∧ RC G e H a c ob ∧ RV G e H key i ∧ RV G e H d v ∧ setC c key d = some c' ∧
  ∀ ob', Ext G [a] H [a] (upd H a ob') → RC G e (upd H a ob') a c' ob' → Q (upd H a ob')
theorem dput_k {G : Gc} {e : List Addr} {H : Hp} {a : Addr} {k : Key} {kk : List Key} {xs : List V} {ds : List D} {v : V} {d : D} (hl : kk.length = xs.length) (hn : kk.Nodup) (r : RVs G e H ds xs) (rv : RV G e H d v) :
    ∃ xs', RD G H a false (dput (kk.map kN) ds (kN k) d).1 xs' (.dK (putK (kk.zip xs) k v)) ∧ RVs G e H (dput (kk.map kN) ds (kN k) d).2 xs' := by
  unfold dput putK
  rw [any_zip k hl]
  by_cases q : kN k ∈ kk.map kN
  · rw [if_pos q, if_pos (decide_eq_true q), zip_map_put k v hl]
    exact ⟨_, .k kk _ (by simp [hl]), putV_rvs rv hl hn r⟩
  · rw [if_neg q, if_neg (by simpa using q)]
    refine ⟨xs ++ [v], ?_, r.append (.cons rv .nil)⟩
    rw [show kk.zip xs ++ [(k, v)] = (kk ++ [k]).zip (xs ++ [v]) by rw [List.zip_append hl]; rfl]
    have := RD.k (G := G) (H := H) (a := a) (kk ++ [k]) (xs ++ [v]) (by simp [hl])
    simpa using this
def putT (ts : List (NestedKey × Addr × V)) (k : NestedKey) (b : Addr) (v : V) : List (NestedKey × Addr × V) := if k ∈ ts.map (·.1) then ts.map (fun t => if t.1 = k then (t.1, t.2.1, v) else t) else ts ++ [(k, b, v)]
theorem putT_us {k : NestedKey} {b : Addr} {v : V} {u : Value} (rv : RelV v u) {ts : List (NestedKey × Addr × V)} {us : List (NestedKey × Addr × Value)} (h : PT3 ts us) (hs : (atKey us k).isSome = decide (k ∈ ts.map (·.1))) : PT3 (putT ts k b v) (storedH us k b u) := by
  unfold putT storedH
  rw [hs]
  by_cases q : k ∈ ts.map (·.1)
  · rw [if_pos q, if_pos (decide_eq_true q)]
    clear hs q
    induction h with
    | nil => exact .nil
    | @cons p q ps qs hq t ih =>
      refine .cons ?_ ih
      unfold putAt
      dsimp only
      by_cases z : p.1 = k
      · rw [if_pos z, if_pos (hq.1.symm.trans z)]
        exact ⟨hq.1, hq.2.1, rv⟩
      · rw [if_neg z, if_neg (fun w => z (hq.1.trans w))]
        exact hq
  · rw [if_neg q, if_neg (by simpa using q)]
    have : ∀ {l : List (NestedKey × Addr × V)} {m : List (NestedKey × Addr × Value)}, PT3 l m → PT3 (l ++ [(k, b, v)]) (m ++ [(k, b, u)]) := by
      intro l m h
      induction h with
      | nil => exact .cons ⟨rfl, rfl, rv⟩ .nil
      | cons hq _ ih => exact .cons hq ih
    exact this h
theorem putT_ds {G : Gc} {e : List Addr} {H : Hp} {k : NestedKey} {b : Addr} {v : V} {d : D} (rv : RV G e H d v) {ts : List (NestedKey × Addr × V)} {ds : List D} (hn : (ts.map (·.1)).Nodup) (r : RVs G e H ds (ts.map (·.2.2))) :
    (putT ts k b v).map (·.1) = (dput (ts.map (·.1)) ds k d).1 ∧ RVs G e H (dput (ts.map (·.1)) ds k d).2 ((putT ts k b v).map (·.2.2)) := by
  unfold putT dput
  by_cases q : k ∈ ts.map (·.1)
  · rw [if_pos q, if_pos q]
    refine ⟨?_, ?_⟩
    · rw [List.map_map]
      apply List.map_congr_left
      intro t _
      by_cases z : t.1 = k <;> simp [z]
    · clear q
      induction ts generalizing ds with
      | nil => cases r; exact .nil
      | cons t ts ih =>
        cases r with
        | @cons y w ds' ws r1 r2 =>
          simp only [List.map_cons, List.nodup_cons] at hn
          simp only [List.map_cons, dputV]
          by_cases z : t.1 = k
          · rw [if_pos z]
            simp only [z, if_true]
            refine .cons rv ?_
            have same : ts.map (fun t => (if t.1 = k then (t.1, t.2.1, v) else t)) = ts := by
              have : ts.map (fun t => (if t.1 = k then (t.1, t.2.1, v) else t)) = ts.map id := by
                apply List.map_congr_left
                intro t' ht'
                rw [if_neg (fun w => hn.1 (by rw [z, ← w]; exact List.mem_map_of_mem ht'))]; rfl
              rw [this, List.map_id]
            rw [same]
            exact r2
          · rw [if_neg z]
            simp only [z, if_false]
            exact .cons r1 (ih hn.2 r2)
  · rw [if_neg q, if_neg q]
    simp only [List.map_append, List.map_cons, List.map_nil]
    exact ⟨trivial, r.append (.cons rv .nil)⟩
theorem dicN_write {a : Addr} {ts ts' : List (NestedKey × Addr × V)} {us' : List (NestedKey × Addr × Value)} {h' : Heap} {t' : Nat} (I : Inv X pins σ H s) (h : H a = some (dicN X.prog X.w a ts)) (hl : ts'.length ≤ sizeLine) (hs : Heap.SameBut a s.heap h') (ht : PT3 ts' us') (hd : h'.DictOfH (nestedKind X.prog X.w) a us') (hsys : (a == sysModules) = false) :
    Inv X pins σ (upd H a (dicN X.prog X.w a ts')) { s with heap := h', toks := t' } := by
  obtain ⟨o, es, ep, h1, h2, h3, h4, h5, h6⟩ := hd
  refine d_write I (by rw [h]; exact True.intro) hs ⟨o, h1⟩ ⟨⟨hl, hsys, us', ht, o, es, ep, h1, h2, h3, h4, h6⟩, ⟨o, h1⟩, ?_⟩
  rintro g1 g2 ⟨q1, q2, us, q3, o', es', ep', q4, q5⟩ k
  exact ⟨q1, q2, us, q3, o', es', ep', k _ q4, q5⟩
theorem o_set (hu : X.A.units + 65 < cLine) : PSet X (rSet (gOf X T)) := by
  intro pins s σ H o i v ov iv u Q I ro ri rv hh
  obtain ⟨e, a, c, ob, key, d, c', rfl, hae, ha, hc, rk, rd, hset, q⟩ := hh
  have none3 : ∀ {p : Prop}, (none : Option Cell) = some c' → p := fun h => by cases h
  cases c with
  | ins _ _ => exact none3 (by cases key <;> exact hset)
  | lst xs =>
   cases key with
   | int j =>
    obtain ⟨n, hn, rfl⟩ := Option.map_eq_some_iff.mp hset
    cases hc with
    | @lst vs _ hvs =>
      cases rk
      have kp : Keep (gOf X T) e H e (upd H a (.lst (vs.set n v))) := Keep.upd1 ha (fun _ z => by cases z) (fun _ _ z => by cases z) hae
      exact set_list pins s σ H _ _ v ov iv u Q I ro ri rv ⟨a, vs, j, n, rfl, rfl, ha, by rw [← hvs.len]; exact hn, q _ (Ext.upd1 ha (fun _ z => by cases z) (fun _ _ z => by cases z) (fun _ z => by cases z) (fun _ z => by cases z) fun c q _ => lst_code (a := a)) (.lst ((RVs.set rd n hvs).keep kp))⟩
   | _ => exact none3 hset
  | dic t ks vs =>
   cases t with
   | false =>
    cases key with
    | int j =>
     unfold setC at hset
     dsimp only at hset
     split at hset
     · rename_i hlen
       cases hset
       cases hc with
       | @dic _ _ _ xs _ hrd hvs =>
         cases hrd with
         | k kk xs hl =>
           cases rk
           cases ro
           obtain ⟨xs', r1, r2⟩ := dput_k (a := a) (k := .inl j) hl (dk_nodup I ha hl) hvs rd
           have kp : Keep (gOf X T) e H e (upd H a (.dK (putK (kk.zip xs) (.inl j) v))) := Keep.upd1 ha (fun _ z => by cases z) (fun _ _ z => by cases z) hae
           refine d_setItem (by omega) I (DPut.k (k := .inl j) ha ?_) ri rv fun s' I' => ⟨_, I', q _ (Ext.upd1 ha (fun _ z => by cases z) (fun _ _ z => by cases z) (fun _ z => by cases z) (fun _ z => by cases z) fun c q _ => dK_code) (.dic (r1.ext fun _ _ z => kp.tup _ _ z) (r2.keep kp))⟩
           rw [List.length_zip, ← hl, Nat.min_self]
           exact big_lt (Nat.le_of_lt (by simpa using hlen))
     · cases hset
    | str j =>
     unfold setC at hset
     dsimp only at hset
     split at hset
     · rename_i hlen
       cases hset
       cases hc with
       | @dic _ _ _ xs _ hrd hvs =>
         cases hrd with
         | k kk xs hl =>
           cases rk
           cases ro
           obtain ⟨xs', r1, r2⟩ := dput_k (a := a) (k := .inr j) hl (dk_nodup I ha hl) hvs rd
           have kp : Keep (gOf X T) e H e (upd H a (.dK (putK (kk.zip xs) (.inr j) v))) := Keep.upd1 ha (fun _ z => by cases z) (fun _ _ z => by cases z) hae
           refine d_setItem (by omega) I (DPut.k (k := .inr j) ha ?_) ri rv fun s' I' => ⟨_, I', q _ (Ext.upd1 ha (fun _ z => by cases z) (fun _ _ z => by cases z) (fun _ z => by cases z) (fun _ z => by cases z) fun c q _ => dK_code) (.dic (r1.ext fun _ _ z => kp.tup _ _ z) (r2.keep kp))⟩
           rw [List.length_zip, ← hl, Nat.min_self]
           exact big_lt (Nat.le_of_lt (by simpa using hlen))
     · cases hset
    | _ => exact none3 hset
   | true =>
    cases key with
    | tup xs =>
     unfold setC at hset
     dsimp only at hset
     split at hset
     · rename_i k hk
       split at hset
       · rename_i hlen
         cases hset
         cases hc with
         | @dic _ _ _ xs _ hrd hvs =>
           cases hrd with
           | n ts hts =>
             have hrn := rk.rn hk
             cases rk with
             | @tup b ys _ t1 t2 =>
               cases ro
               cases ri
               obtain ⟨z1, z2, us, z3, z4⟩ := dicN_at I ha hts
               have hlt : ts.length = us.length := by
                 have : ∀ {l : List (NestedKey × Addr × V)} {m : List (NestedKey × Addr × Value)}, PT3 l m → l.length = m.length := by
                   intro l m h
                   induction h with
                   | nil => rfl
                   | cons _ _ ih => simp [ih]
                 exact this z3
               have hnd : (ts.map (·.1)).Nodup := by
                 have e1 : ∀ {l : List (NestedKey × Addr × V)} {m : List (NestedKey × Addr × Value)}, PT3 l m → m.map (·.1) = l.map (·.1) := by
                   intro l m h
                   induction h with
                   | nil => rfl
                   | cons h _ ih => simp [ih, h.1]
                 rw [← e1 z3]
                 exact z4.nodup
               have hcode : ∀ c q, a = c → dicN X.prog X.w a ts ≠ LamX.CodeO c q := code_ne I ha fun ob hob vs hd => by
                 obtain ⟨o, es, ep, h1, h2, h3, _⟩ := z4
                 rw [hob] at h1; cases h1
                 rw [hd] at h3; cases h3
               refine wpAny_setItem_heap (knd := nestedKind X.prog X.w) (k := k) (hsz := by rw [← hlt]; exact z1) (show X.A.units + 1 + 8 < cLine by omega) ⟨RN.nested I _ _ _ hrn rfl, hlen.1⟩ z4 fun h' hd' hsb => ?_
               have hs := (atKey_get (G := gOf X T) k z3 hvs).2
               have p3 := putT_us (b := b) rv z3 hs
               obtain ⟨p4, p5⟩ := putT_ds (k := k) (b := b) rd hnd hvs
               have hlen2 : (putT ts k b v).length ≤ sizeLine := by
                 unfold putT
                 split
                 · rw [List.length_map]; exact z1
                 · rw [List.length_append]
                   have : ts.length < big := by simpa using hlen.2
                   exact big_ok (show ts.length + 1 ≤ big from this)
               have I' := dicN_write (t' := s.toks + (nestedKind X.prog X.w).draws k) I ha hlen2 hsb p3 hd' z2
               have kp : Keep (gOf X T) e H e (upd H a (dicN X.prog X.w a (putT ts k b v))) := Keep.upd1 ha (fun _ z => by cases z) (fun _ _ z => by cases z) hae
               refine ⟨_, I', q _ (Ext.upd1 ha (fun _ z => by cases z) (fun _ _ z => by cases z) (fun _ z => by cases z) (fun _ z => by cases z) hcode) ?_⟩
               have hnew : ∀ t ∈ putT ts k b v, RN (gOf X T) (upd H a (dicN X.prog X.w a (putT ts k b v))) t.1 (.ref t.2.1) ∧ t.1.depth ≤ 8 := by
                 intro t ht
                 unfold putT at ht
                 split at ht
                 · obtain ⟨t0, h0, rfl⟩ := List.mem_map.mp ht
                   obtain ⟨g1, g2⟩ := hts t0 h0
                   by_cases z : t0.1 = k
                   · rw [if_pos z]; exact ⟨g1.ext fun _ _ z => kp.tup _ _ z, g2⟩
                   · rw [if_neg z]; exact ⟨g1.ext fun _ _ z => kp.tup _ _ z, g2⟩
                 · rcases List.mem_append.mp ht with h0 | h0
                   · exact ⟨(hts t h0).1.ext fun _ _ z => kp.tup _ _ z, (hts t h0).2⟩
                   · have : t = (k, b, v) := by simpa using h0
                     subst this
                     exact ⟨hrn.ext fun _ _ z => kp.tup _ _ z, hlen.1⟩
               have rdn := RD.n (G := gOf X T) (H := upd H a (dicN X.prog X.w a (putT ts k b v))) (a := a) (putT ts k b v) hnew
               rw [p4] at rdn
               exact .dic rdn (p5.keep kp)
       · cases hset
     · cases hset
            | _ => exact none3 hset
end
end Mir

/-! Mir14: statements and calls that change cells; dicts that are made; methods. -/
namespace Mir
open PySem PySem.Spec PyProof.Rows L2 RZ
def setM (fo fi fv : ME) : MS := fun ρ S => toS ρ (fv ρ S) fun uv S1 => toS ρ (fo ρ S1) fun uo S2 => toS ρ (fi ρ S2) fun ui S3 => match uo, ui, uv with
  | .c j, .d k, .d d => match S3[j]? with
    | some c => match setC c k d with
      | some c' => .nx ρ (S3.set j c')
      | none => .un
    | none => .un
  | _, _, _ => .un
def isLst : Option Cell → Bool
  | some (.lst _) => true
  | _ => false
def appM (fo fe : ME) : ME := fun ρ S => (fo ρ S).bind fun uo S1 => match uo with
  | .c j => if isLst S1[j]? = true then (fe ρ S1).bind fun ue S2 => match ue, S2[j]? with
    | .d d, some (.lst xs) => if xs.length < big then .ok (.d .non) (S2.set j (.lst (xs ++ [d]))) else .un
    | _, _ => .un
   else .un
  | _ => .un
section
variable {X : Cx} {T : List (Addr × Str)} {W : WX} {o i e value : Expr} {fo fi fv : ME} {pos p2 apos : Pos}
theorem s_setI (hu : X.A.units + 65 < cLine) (he : PE X value (tE (gOf X T) W fv)) (ho : PE X o (tE (gOf X T) W fo)) (hi : PE X i (tE (gOf X T) W fi))
    (ha : ∀ v, assign (.Subscript o i p2) X.env v = (do
      let ov ← holding [v] (eval o X.env)
      let iv ← holding [v, ov] (eval i X.env)
      standAt p2
      holding [v, ov, iv] (setItem ov iv v)
      release [v, ov, iv] []) := by intro _; rfl)
    (hs : swapsWithSole [.Subscript o i p2] value pos.line X.env = pure false := by rfl) (hw : swappedStores [.Subscript o i p2] value X.env = pure none := by rfl)
    (h1 : (assignEach [.Subscript o i p2] X.env).map (·.2) = [assign (.Subscript o i p2) X.env] := by rfl) : PS X (.Assign [.Subscript o i p2] value pos) (tS (gOf X T) W (setM fo fi fv)) :=
  ps_mono (ps_asg he (pg_sub ho hi (o_set (T := T) hu) ha) hs hw h1) fun Dn σ H h => by
    obtain ⟨x, m, ρ, S, p, h⟩ := h
    refine ⟨x, m, ρ, S, p, (Post.toS h p).mono fun uv S1 m1 H1 E1 R1 ⟨_, _, h1⟩ v rv => ?_⟩
    have p1 := p.ext E1 R1
    refine ⟨x, m1, ρ, S1, p1, (Post.toS h1 p1).mono fun uo S2 m2 H2 E2 R2 ⟨_, _, h2⟩ ov ro => ?_⟩
    have p2 := p1.ext E2 R2
    refine ⟨x, m2, ρ, S2, p2, (Post.toS h2 p2).mono fun ui S3 m3 H3 E3 R3 ⟨_, _, h3⟩ iv ri => ?_⟩
    have p3 := p2.ext E3 R3
    cases uo with
    | d _ => exact h3.elim
    | t _ => exact h3.elim
    | c j =>
      cases ui with
      | c _ => exact h3.elim
      | t _ => exact h3.elim
      | d k =>
        cases uv with
        | c _ => exact h3.elim
        | t _ => exact h3.elim
        | d d =>
          dsimp only at h3
          cases hj : S3[j]? with
          | none => simp only [hj] at h3; exact h3.elim
          | some c =>
            simp only [hj] at h3
            cases hs' : setC c k d with
            | none => simp only [hs'] at h3; exact h3.elim
            | some c' =>
              simp only [hs'] at h3
              cases ro.ext E3 with
              | @c _ a ha' =>
                obtain ⟨ob, o1, o2⟩ := R3.at' j a c ha' hj
                cases (rv.ext E2).ext E3 with
                | d rv =>
                  cases ri with
                  | d ri =>
                    refine ⟨x ++ m3, a, c, ob, k, d, c', rfl, List.mem_append_right _ (List.mem_of_getElem? ha'), o1, o2, ri, rv, hs', fun ob' E4 rc => ?_⟩
                    have R4 := R3.one E4 ha' upd_same rc
                    have E5 : Ext (gOf X T) m3 H3 m3 (upd H3 a ob') := E4.of_one (List.mem_of_getElem? ha')
                    exact h3 m3 _ σ E5 (p3.ext E5 R4)
theorem e_app (ho : PE X o (tE (gOf X T) W fo)) (he : PE X e (tE (gOf X T) W fv)) (hbase : attributeBase o "append" X.env (eval o X.env) = eval o X.env := by rfl)
    (hfew : ((backTo p2 (starEach [e] X.env)).all (fun x => !x.1) && (backToKw p2 (keywordEach [] X.env)).all (fun x => x.1.isSome)
      && decide ([e].length + ([] : List Keyword).length + (if ([] : List Keyword).isEmpty then 0 else 1) < 30)) = true := by rfl)
    (hline : (apos.endLine == p2.line) = true := by rfl) (hs : starEach [e] X.env = (false, eval e X.env) :: starEach [] X.env := by rfl) (hpl : (backTo p2 (starEach [] X.env)).any (·.1) = false := by rfl) :
    PE X (.Call (.Attribute o "append" apos) [e] [] p2) (tE (gOf X T) W (appM fo fv)) :=
  pe_mono (pe_bm PySem.F.plainAttrs_list PySem.F.slot_list_append PySem.F.type_list_append mt_append ho (pa_cons he pa_nil hs) hbase hfew hline hs hpl) fun σ H Q h => by
    obtain ⟨x, m, ρ, S, p, h⟩ := h
    refine ⟨x, m, ρ, S, p, (Post.bind h).mono fun uo S1 m1 H1 E1 R1 ⟨_, _, h1⟩ ov ro => ?_⟩
    have p1 := p.ext E1 R1
    cases uo with
    | d _ => exact h1.elim
    | t _ => exact h1.elim
    | c j =>
      dsimp only at h1
      split at h1
      case isFalse => exact h1.elim
      case isTrue hl =>
      cases ro with
      | @c _ a ha' =>
        have hjl : j < S1.length := by rw [← R1.len]; exact (List.getElem?_eq_some_iff.mp ha').1
        cases hc : S1[j]? with
        | none => rw [List.getElem?_eq_none_iff] at hc; omega
        | some c =>
          rw [hc] at hl
          obtain ⟨ob, o1, o2⟩ := R1.at' j a c ha' hc
          cases o2 with
          | dic _ _ => simp [isLst] at hl
          | ins _ _ _ => simp [isLst] at hl
          | @lst vs _ hvs =>
            refine ⟨.inl ⟨rfl, vs, .of o1⟩, x, m1, ρ, S1, p1, (Post.bind h1).mono fun ue S2 m2 H2 E2 R2 ⟨_, _, h2⟩ v rv => ?_⟩
            have ha2 : m2[j]? = some a := by
              obtain ⟨nw, e1, _⟩ := E2.pre
              rw [e1, List.getElem?_append_left (List.getElem?_eq_some_iff.mp ha').1]; exact ha'
            cases ue with
            | c _ => exact h2.elim
            | t _ => exact h2.elim
            | d d =>
              cases hc2 : S2[j]? with
              | none => simp only [hc2] at h2; exact h2.elim
              | some c2 =>
                rw [hc2] at h2
                cases c2 with
                | dic _ _ _ => exact h2.elim
                | ins _ _ => exact h2.elim
                | lst xs =>
                  dsimp only at h2
                  split at h2
                  case isFalse => exact h2.elim
                  case isTrue hlen =>
                  obtain ⟨ob2, g1, g2⟩ := R2.at' j a _ ha2 hc2
                  cases g2 with
                  | @lst vs2 _ hvs2 =>
                    cases rv with
                    | d rv =>
                      refine ⟨a, vs2, v, rfl, rfl, g1, by rw [← hvs2.len]; exact big_lt (Nat.le_of_lt hlen), ?_⟩
                      have E3 : Ext (gOf X T) [a] H2 [a] (upd H2 a (.lst (vs2 ++ [v]))) := Ext.upd1 g1 (fun _ z => by cases z) (fun _ _ z => by cases z) (fun _ z => by cases z) (fun _ z => by cases z) fun c q _ => lst_code (a := a)
                      have kp : Keep (gOf X T) (x ++ m2) H2 (x ++ m2) (upd H2 a (.lst (vs2 ++ [v]))) := Keep.upd1 g1 (fun _ z => by cases z) (fun _ _ z => by cases z) (List.mem_append_right _ (List.mem_of_getElem? ha2))
                      have R3 := R2.one E3 ha2 upd_same (.lst ((hvs2.append (.cons rv .nil)).keep kp))
                      exact h2 m2 _ (E3.of_one (List.mem_of_getElem? ha2)) R3 _ (.d .non)

/-! ### dicts that are made -/
/-- {} that is to be changed, with plain keys; with tuples as keys -/
def ndiM (t : Bool) : ME := fun _ S => .ok (.c S.length) (S ++ [.dic t [] []])
theorem e_ndK : PE X (.Dict [] [] pos) (tE (gOf X T) W (ndiM false)) := pe_mono pe_dnewK fun σ H Q h => by
  obtain ⟨x, m, ρ, S, p, h⟩ := h
  intro a np
  have E2 : Ext (gOf X T) m H (m ++ [a]) (upd H a (.dK [])) := Ext.cell np
  exact h (m ++ [a]) _ E2 (p.sto.cell np (.dic (.k [] [] rfl) .nil)) _ (.c (by rw [← p.sto.len]; simp))
theorem e_ndN : PE X (.Dict [] [] pos) (tE (gOf X T) W (ndiM true)) := ⟨fun pins s σ H Q I h => by
  obtain ⟨x, m, ρ, S, p, h⟩ := h
  have np : H s.heap.objs.size = none := I.hok.fresh (Nat.le_refl _)
  have hsys : (s.heap.objs.size == sysModules) = false := by
    exact beq_false_of_ne (Nat.ne_of_gt I.big)
  refine wpAny_Dict_empty ⟨.ref s.heap.objs.size, _, I.laid (a := s.heap.objs.size) (o := dicN X.prog X.w s.heap.objs.size []) (t' := s.toks) (fun _ _ q => Heap.get?_push_of_some _ q) (Nat.le_refl _) ⟨⟨Nat.zero_le _, hsys, [], .nil, ?_⟩, ⟨_, Heap.get?_push_size _ rfl⟩, ?_⟩, rfl, ?_⟩
  · obtain ⟨o, es, ep, h1, h2, h3, h4, h5, h6⟩ := Heap.DictOfH.new (knd := nestedKind X.prog X.w) s.heap
    exact ⟨o, es, ep, h1, h2, h3, h4, h6⟩
  · rintro g1 g2 ⟨q1, q2, us, q3, o', es', ep', q4, q5⟩ k
    exact ⟨q1, q2, us, q3, o', es', ep', k _ q4, q5⟩
  · have E2 : Ext (gOf X T) m H (m ++ [s.heap.objs.size]) (upd H s.heap.objs.size (dicN X.prog X.w s.heap.objs.size [])) := Ext.cell np
    refine h (m ++ [s.heap.objs.size]) _ E2 (p.sto.cell np (.dic ?_ .nil)) _ (.c (by rw [← p.sto.len]; simp))
    exact RD.n (G := gOf X T) [] (fun _ z => by cases z)⟩
end
end Mir

/-! Mir15: zip of any two; texts: walked, joined, split, written; what is never reached; a dict of the module. -/
namespace Mir
open PySem PySem.Spec PyProof.Rows L2 RZ
/-! ### never reached -/
def unM : MS := fun _ _ => .un
theorem s_un {X : Cx} {T : List (Addr × Str)} {W : WX} {st : Stmt} : PS X st (tS (gOf X T) W unM) := ⟨fun pins s σ H Dn I h => by
  obtain ⟨x, m, ρ, S, p, h⟩ := h
  exact h.elim⟩
def unE : ME := fun _ _ => .un
theorem e_un0 {X : Cx} {T : List (Addr × Str)} {W : WX} {e : Expr} : PE X e (tE (gOf X T) W unE) := ⟨fun pins s σ H Q I h => by
  obtain ⟨x, m, ρ, S, p, h⟩ := h
  exact h.elim⟩
/-! ### zip of lists, tuples -/
def SqB (t : Bool) (K : PySem.W.Frag) (H : Hp) (a : Addr) (xs : List V) : Prop := match t with
  | true => SqT K H a xs
  | false => SqL K H a xs
def itB (t : Bool) (h : Heap) (it l : Addr) (i : Nat) : Prop := match t with
  | true => h.IsTupleIter it l i
  | false => h.IsListIter it l i
def sqB (t : Bool) (h : Heap) (l : Addr) (items : Array Value) : Prop := match t with
  | true => h.IsTuple l items
  | false => h.IsList l items
theorem drawsB (t : Bool) {prog : Program} {w : World} {A : Around} (hh : A.handled = none) (it l : Addr) (hne : l ≠ it) (items : Array Value) :
    Draws prog w A it [it, l] items.size (fun i v => items[i]? = some v) (fun i h => itB t h it l i ∧ sqB t h l items) := by
  cases t
  · exact Draws.list hh it l hne items
  · exact Draws.tuple hh it l hne items
theorem itB.ex {t : Bool} {h : Heap} {it l : Addr} {i : Nat} (x : itB t h it l i) : ∃ o, h.get? it = some o ∧ ∀ v, o.data ≠ .cell v := by
  cases t
  · obtain ⟨o, e, _, d⟩ := x; exact ⟨o, e, fun v q => by rw [d] at q; cases q⟩
  · obtain ⟨o, e, _, d⟩ := x; exact ⟨o, e, fun v q => by rw [d] at q; cases q⟩
theorem itB.at {t : Bool} {h h' : Heap} {it l : Addr} {i : Nat} (x : itB t h it l i) (k : ∀ o, h.get? it = some o → h'.get? it = some o) : itB t h' it l i := by
  cases t
  · exact Heap.IsListIter.at x k
  · exact Heap.IsTupleIter.at x k
theorem SqB.items {t : Bool} {X : Cx} {pins : List (Addr × Obj)} {σ : St} {H : Hp} {s : Shared} {a : Addr} {xs : List V} (h : SqB t X.K H a xs) (I : Inv X pins σ H s) : ∃ its : List Value, Vals xs its ∧ sqB t s.heap a its.toArray ∧ a < s.heap.objs.size := by
  cases t
  · obtain ⟨its, r, p, _⟩ := I.list h
    exact ⟨its, r, p.isList, p.lt⟩
  · obtain ⟨its, r, p, _⟩ := I.tuple h
    obtain ⟨o, e, q⟩ := id p
    exact ⟨its, r, p, Heap.lt_size e⟩
theorem SqB.inj {t : Bool} {X : Cx} {pins : List (Addr × Obj)} {σ : St} {H : Hp} {s : Shared} {a : Addr} {xs ys : List V} (I : Inv X pins σ H s) (h : SqB t X.K H a xs) (h' : SqB t X.K H a ys) : xs = ys := by
  cases t
  · exact I.list_inj h h'
  · exact I.tuple_inj h h'
def ItzB (t u : Bool) (K : PySem.W.Frag) (a b : Addr) : It :=
  ⟨fun i H => ∃ (xs ys : List V) (x y : V), SqB t K H a xs ∧ SqB u K H b ys ∧ xs[i]? = some x ∧ ys[i]? = some y,
    fun i H v H' => ∃ T x y, v = .ref T ∧ H T = none ∧ H' = upd H T (.tup [x, y]) ∧ (∀ xs, SqB t K H a xs → xs[i]? = some x) ∧ ∀ ys, SqB u K H b ys → ys[i]? = some y,
    fun i H => ∃ xs ys : List V, SqB t K H a xs ∧ SqB u K H b ys ∧ (xs.length ≤ i ∨ ys.length ≤ i) ∧ i ≤ xs.length ∧ i ≤ ys.length⟩
theorem turn_zipB {t u : Bool} {P : Program} {w : World} {K : PySem.W.Frag} {elts : List Expr} {kk : Nat} {tpos : Pos} {a b z TI TO i1 i2 : Addr} (S : ZipSep2 z TI TO i1 i2 [i1, a] [i2, b]) (na : a ≠ i1) (nb : b ≠ i2) :
    Turn P w K (.Tuple elts kk tpos) (ItzB t u K a b) [z, TI, TO, i1, i2] z (fun i h => IsZip h z TI TO .none ∧ IsTupOf2 h TI (.ref i1) (.ref i2) ∧ (∃ x y, IsTupOf2 h TO x y) ∧ itB t h i1 a i ∧ itB u h i2 b i) where
  mem := by simp
  obj := fun i h st c hc => by
    obtain ⟨hz, hTI, ⟨x, y, hTO⟩, h1, h2⟩ := st
    have e' : c = z ∨ c = TI ∨ c = TO ∨ c = i1 ∨ c = i2 := by simpa using hc
    rcases e' with q | q | q | q | q
    · rw [q]; exact ⟨_, hz, fun v q => nomatch q⟩
    · rw [q]; exact ⟨_, hTI, fun v q => nomatch q⟩
    · rw [q]; exact ⟨_, hTO, fun v q => nomatch q⟩
    · rw [q]; exact h1.ex
    · rw [q]; exact h2.ex
  keep := fun i h h' st k => by
    obtain ⟨hz, hTI, ⟨x, y, hTO⟩, h1, h2⟩ := st
    exact ⟨k z (by simp) _ hz, k TI (by simp) _ hTI, ⟨x, y, k TO (by simp) _ hTO⟩, h1.at fun o q => k i1 (by simp) o q, h2.at fun o q => k i2 (by simp) o q⟩
  item := by
    intro X hP hw hK hc i pins s σ H E I hf st hg
    subst hP hw hK
    obtain ⟨hz, hTI, ⟨x0, y0, hTO⟩, h1, h2⟩ := st
    obtain ⟨xs, ys, x, y, hqx, hqy, hx, hy⟩ := hg
    obtain ⟨its, rv, p, _⟩ := hqx.items I
    obtain ⟨its2, rv2, p2, _⟩ := hqy.items I
    obtain ⟨v1, hu, ru⟩ := rv.get hx
    obtain ⟨v2, hu2, ru2⟩ := rv2.get hy
    have hzl : z < s.heap.objs.size := Heap.lt_size hz
    have hi1 : i1 < s.heap.objs.size := by obtain ⟨o, e, _⟩ := h1.ex; exact Heap.lt_size e
    have hi2 : i2 < s.heap.objs.size := by obtain ⟨o, e, _⟩ := h2.ex; exact Heap.lt_size e
    refine wpAny_pyNext_zipD2_item (A := X.A) S (drawsB t (A := X.A.in1) (I.ok.hd hc) i1 a na its.toArray) (drawsB u (A := X.A.in1) (I.ok.hd hc) i2 b nb its2.toArray) hz hTI hTO ⟨h1, p⟩ ⟨h2, p2⟩ (by have := (List.getElem?_eq_some_iff.mp hu).1; simpa using this) (by have := (List.getElem?_eq_some_iff.mp hu2).1; simpa using this) fun x1 x2 h' tk y1 y2 z' TO' h1' h2' hT hsz hk => ?_
    have e1 : x1 = v1 := by
      have q : its[i]? = some x1 := by simpa using y1
      rw [hu] at q; exact (Option.some.inj q).symm
    have e2 : x2 = v2 := by
      have q : its2[i]? = some x2 := by simpa using y2
      rw [hu2] at q; exact (Option.some.inj q).symm
    subst e1 e2
    refine ⟨_, rfl, wpAny_letOwnedTupleGo_zip (s := { s with heap := h', toks := tk }) z' fun h'' z'' sb => ?_⟩
    have hT2 : h''.get? s.heap.objs.size = some { cls := .type "tuple", data := .seq #[x1, x2] } := (sb.2 _ (Nat.ne_of_gt hzl)).trans hT
    have new : ObjOk X.prog X.w (upd H s.heap.objs.size (.tup [x, y])) h'' s.heap.objs.size (.tup [x, y]) :=
      ⟨by show 2 ≤ sizeLine; decide, [x1, x2], .cons ru (.cons ru2 .nil), ⟨_, hT2, rfl, _, rfl⟩⟩
    have I1 : Inv X pins σ (upd H s.heap.objs.size (.tup [x, y])) { s with heap := h'', toks := tk } :=
      I.turnedNew (t' := tk) (ch := [z, TI, TO, i1, i2]) (fun c o hb q => (sb.2 c (fun q' => hb (by simp [q']))).trans (hk c o (fun q' => hb (by simp [q'])) (fun q' => hb (by simp [q'])) (fun q' => hb (by simp [q'])) (fun q' => hb (by simp [q'])) q)) hf (Nat.le_refl _) new
    refine ⟨.ref s.heap.objs.size, _, I1, rfl, ⟨_, x, y, rfl, I.hok.fresh (Nat.le_refl _), rfl, fun l hl => by rw [SqB.inj I hl hqx]; exact hx, fun l hl => by rw [SqB.inj I hl hqy]; exact hy⟩, ⟨z'', ?_, ⟨x1, x2, ?_⟩, ?_, ?_⟩, fun c hcm => ?_⟩
    · exact (sb.2 _ S.TIz).trans (hk _ _ S.TIz S.TITO S.TIi1 S.TIi2 hTI)
    · exact (sb.2 _ S.TOz).trans TO'
    · exact h1'.1.at fun o q => (sb.2 _ S.zi1.symm).trans q
    · exact h2'.1.at fun o q => (sb.2 _ S.zi2.symm).trans q
    · have hlt : c < s.heap.objs.size := by
        have e' : c = z ∨ c = TI ∨ c = TO ∨ c = i1 ∨ c = i2 := by simpa using hcm
        rcases e' with q | q | q | q | q
        · rw [q]; exact hzl
        · rw [q]; exact Heap.lt_size hTI
        · rw [q]; exact Heap.lt_size hTO
        · rw [q]; exact hi1
        · rw [q]; exact hi2
      rw [upd_ne (Nat.ne_of_lt hlt)]
      exact (hf c hcm).1
  done := by
    intro X hP hw hK hc i pins s σ H E I hf st hg
    subst hP hw hK
    obtain ⟨hz, hTI, ⟨x0, y0, hTO⟩, h1, h2⟩ := st
    obtain ⟨xs, ys, hqx, hqy, hend, le1, le2⟩ := hg
    obtain ⟨its, rv, p, _⟩ := hqx.items I
    obtain ⟨its2, rv2, p2, _⟩ := hqy.items I
    have l1 := rv.length
    have l2 := rv2.length
    have z1 : its.toArray.size = its.length := by simp
    have z2 : its2.toArray.size = its2.length := by simp
    refine wpAny_pyNext_zipD2_end (i := i) (A := X.A) S (drawsB t (A := X.A.in1) (I.ok.hd hc) i1 a na its.toArray) (drawsB u (A := X.A.in1) (I.ok.hd hc) i2 b nb its2.toArray) hz hTI hTO ⟨h1, p⟩ ⟨h2, p2⟩ (by omega) (by omega) (by omega) fun h' tk hk => ?_
    exact ⟨rfl, I.turnedL (t' := tk) (ch := [z, TI, TO, i1, i2]) (fun c o hb q =>
      hk c o (fun q' => hb (by simp [q'])) (fun q' => hb (by simp [q'])) (fun q' => hb (by simp [q'])) (fun q' => hb (by simp [q'])) q) hf⟩
  self := fun A i s Q E st h => wpAny_pyIter_zip st.1 h
theorem begB (t : Bool) (l : Addr) (items : Array Value) : ∃ o, Begins (.ref l) o (fun h => sqB t h l items) ∧ ∀ h it, h.get? it = some o → itB t h it l 0 := by
  cases t
  · exact ⟨_, begins_list l items, fun h it e => ⟨_, e, rfl, rfl⟩⟩
  · exact ⟨_, begins_tuple l items, fun h it e => ⟨_, e, rfl, rfl⟩⟩
def iZipB (K : PySem.W.Frag) (ta : TA) : TI := fun σ H R => ta σ H fun vs H1 => ∃ t u a b xs ys, vs = [.ref a, .ref b] ∧ SqB t K H1 a xs ∧ SqB u K H1 b ys ∧ R (ItzB t u K a b) H1
theorem pi_zipB {X : Cx} {e e2 : Expr} {ta : TA} {p pos tpos : Pos} {elts : List Expr} {kk : Nat} (hg : Gl X "zip") (hm : X.mg "zip" = none) (ha : PA X [e, e2] ta)
    (hs : starEach [e, e2] X.env = (false, eval e X.env) :: starEach [e2] X.env := by rfl) (hpl : (backTo pos (starEach [e2] X.env)).any (·.1) = false := by rfl) :
    PI X (.Tuple elts kk tpos) (.Call (.Name "zip" p) [e, e2] [] pos) (iZipB X.K ta) := by
  refine ⟨fun pins s σ H R I h => ?_⟩
  refine Call_ (ld_blt I hg hm PyProof.Rows.boot_zip (PyProof.Rows.callWith_type1 (thn (ha.run pos pins s σ H _ I h) fun us s1 ⟨vs, H1, I1, r1, q1⟩ => ?_) hs hpl))
  obtain ⟨t, u, a, b, xs, ys, ex, hqx, hqy, q⟩ := q1
  subst ex
  cases r1 with
  | cons r rr =>
    cases rr with
    | cons r' rr =>
      cases rr
      cases r
      cases r'
      have fresh5 : ∀ c, c ∈ [s1.heap.objs.size + 4, s1.heap.objs.size + 2, s1.heap.objs.size + 3, s1.heap.objs.size, s1.heap.objs.size + 1] → FpOk X pins H1 c := fun c hcm => by
        have e' : c = s1.heap.objs.size + 4 ∨ c = s1.heap.objs.size + 2 ∨ c = s1.heap.objs.size + 3 ∨ c = s1.heap.objs.size ∨ c = s1.heap.objs.size + 1 := by simpa using hcm
        have hle : s1.heap.objs.size ≤ c := by omega
        exact I1.fpOk hle (I1.hok.fresh hle)
      obtain ⟨its, rv, p1, l1⟩ := hqx.items I1
      obtain ⟨its2, rv2, p2, l2⟩ := hqy.items I1
      obtain ⟨o1, B1, b1⟩ := begB t a its.toArray
      obtain ⟨o2, B2, b2⟩ := begB u b its2.toArray
      refine zip_begins2 B1 B2 p1 p2 fun h' hz hTI hTO h1 h2 hsz hk => wpAny_pyIter_zip hz ?_
      have I2 : Inv X pins σ H1 { s1 with heap := h' } := I1.kept (t' := s1.toks) hk
      refine ⟨s1.heap.objs.size + 4, [s1.heap.objs.size + 4, s1.heap.objs.size + 2, s1.heap.objs.size + 3, s1.heap.objs.size, s1.heap.objs.size + 1], _, _, H1, rfl, I2, turn_zipB ⟨?_, ?_, ?_, ?_, ?_, ?_, ?_, ?_, ?_, ?_, ?_, ?_, ?_⟩ (Nat.ne_of_lt l1) (Nat.ne_of_lt (Nat.lt_succ_of_lt l2)), ⟨hz, hTI, ⟨_, _, hTO⟩, b1 _ _ h1, b2 _ _ h2⟩, fresh5, q⟩
      all_goals (have q1 : ∀ k, s1.heap.objs.size + k ≠ a := fun k => Nat.ne_of_gt (Nat.lt_of_lt_of_le l1 (Nat.le_add_right _ _)))
      all_goals (have q2 : ∀ k, s1.heap.objs.size + k ≠ b := fun k => Nat.ne_of_gt (Nat.lt_of_lt_of_le l2 (Nat.le_add_right _ _)))
      all_goals (have q3 := q1 0)
      all_goals (have q4 := q2 0)
      all_goals (rw [Nat.add_zero] at q3 q4)
      all_goals (simp [q1, q2, q3, q4])
section
variable {G : Gc} {x m : List Addr} {H : Hp} {a b : Addr} {ds es : List D} {xs ys : List V}
/-- a list that is no cell, or a tuple -/
def SqD (G : Gc) (e : List Addr) (t : Bool) (H : Hp) (a : Addr) (xs : List V) : Prop := match t with
  | true => SqT G.K H a xs
  | false => H a = some (.lst xs) ∧ a ∉ e
theorem SqD.ext {t : Bool} {x2 m2 : List Addr} {H2 : Hp} (h : SqD G (x ++ m) t H a xs) (E : Ext G m H m2 H2) : SqB t G.K H2 a xs := by
  cases t
  · exact .inl (.inl (E.keep _ _ h.1 (fun z => h.2 (List.mem_append_right _ z)) (fun ps z => by cases z)))
  · exact SqT.ext E h
theorem pairs_stop : ∀ {ds es : List D} {i : Nat}, i ≤ (pairs ds es).length → i ≤ ds.length ∧ i ≤ es.length
  | _, _, 0, _ => ⟨Nat.zero_le _, Nat.zero_le _⟩
  | [], _, i + 1, h => by simp [pairs] at h
  | _ :: _, [], i + 1, h => by simp [pairs] at h
  | d :: ds, e :: es, i + 1, h => by
    have := pairs_stop (ds := ds) (es := es) (i := i) (by simpa [pairs] using h)
    simp only [List.length_cons]; omega
theorem yl_zipB {t u : Bool} (h : SqD G (x ++ m) t H a xs) (h' : SqD G (x ++ m) u H b ys) (r : RVs G (x ++ m) H ds xs) (r' : RVs G (x ++ m) H es ys) : Yl G x m H (ItzB t u G.K a b) (pairs ds es) := fun x2 m2 H2 hx E tr i => by
  have h2 := h.ext (x2 := x2) E
  have h2' := h'.ext (x2 := x2) E
  have r2 := r.keep (E.kp2 hx)
  have r2' := r'.keep (E.kp2 hx)
  refine ⟨fun d hd => ?_, fun hl => ⟨xs, ys, h2, h2', by rw [← r.len, ← r'.len]; exact pairs_get.2 (Nat.le_of_eq hl), by rw [← r.len]; exact (pairs_stop (Nat.le_of_eq hl.symm)).1, by rw [← r'.len]; exact (pairs_stop (Nat.le_of_eq hl.symm)).2⟩⟩
  obtain ⟨d1, d2, g1, g2, rfl⟩ := pairs_get.1 d hd
  obtain ⟨v, q1, q2⟩ := r2.get g1
  obtain ⟨v', q1', q2'⟩ := r2'.get g2
  refine ⟨⟨xs, ys, v, v', h2, h2', q1, q1'⟩, fun w H3 ⟨T, y1, y2, e1, e2, e3, e4, e5⟩ => ?_⟩
  have z1 := e4 xs h2
  have z2 := e5 ys h2'
  rw [q1] at z1
  rw [q1'] at z2
  cases z1
  cases z2
  subst e1 e3
  exact newPair e2 tr q2 q2'
end
def seqU : U → Option (List D)
  | .d (.tup xs) => some xs
  | .d (.lst xs) => some xs
  | _ => none
def zpBI (f g : ME) : MI := fun ρ S => (argsM [f, g] ρ S).bind fun us S1 => match us with
  | [u, v] => match seqU u, seqU v with
    | some xs, some ys => .ok (pairs xs ys) S1
    | _, _ => .un
  | _ => .un
theorem seqU_ok {G : Gc} {e m : List Addr} {H : Hp} {u : U} {v : V} {ds : List D} (r : RU G e m H u v) (h : seqU u = some ds) : ∃ t a xs, v = .ref a ∧ SqD G e t H a xs ∧ RVs G e H ds xs := by
  unfold seqU at h
  split at h
  · cases h
    cases r with
    | d r => cases r with
      | tup t1 t2 => exact ⟨true, _, _, rfl, t1, t2⟩
  · cases h
    cases r with
    | d r => cases r with
      | lst t1 tn t2 => exact ⟨false, _, _, rfl, ⟨t1, tn⟩, t2⟩
  · cases h
theorem SqD.b {G : Gc} {e : List Addr} {t : Bool} {H : Hp} {a : Addr} {xs : List V} (h : SqD G e t H a xs) : SqB t G.K H a xs := by
  cases t
  · exact .inl (.inl h.1)
  · exact h
section
variable {X : Cx} {T : List (Addr × Str)} {W : WX} {tg e e2 : Expr} {f g : ME} {p pos : Pos}
theorem i_zip2 {elts : List Expr} {kk : Nat} {tpos : Pos} (hm : X.mg "zip" = none) (ha : PA X [e, e2] (tA (gOf X T) W (argsM [f, g]))) (hg : Gl X "zip" := by rfl) (hs : starEach [e, e2] X.env = (false, eval e X.env) :: starEach [e2] X.env := by rfl) (hpl : (backTo pos (starEach [e2] X.env)).any (·.1) = false := by rfl) :
    PI X (.Tuple elts kk tpos) (.Call (.Name "zip" p) [e, e2] [] pos) (tI (gOf X T) W (zpBI f g)) := pi_mono (pi_zipB hg hm ha hs hpl) fun σ H R h => by
  obtain ⟨x, m, ρ, S, p, h⟩ := h
  refine ⟨x, m, ρ, S, p, (Post.bind h).mono fun us S1 m1 H1 E1 R1 ⟨_, _, h1⟩ vs rvs => ?_⟩
  split at h1
  · split at h1
    · rename_i xs ys q1 q2
      cases rvs with
      | cons r t => cases t with
        | cons r' t =>
          cases t
          obtain ⟨t, a, zs, rfl, s1, s2⟩ := seqU_ok r q1
          obtain ⟨t', b, zs', rfl, s3, s4⟩ := seqU_ok r' q2
          exact ⟨t, t', a, b, zs, zs', rfl, s1.b, s3.b, h1 m1 H1 Ext.refl R1 _ (yl_zipB s1 s3 s2 s4)⟩
    · exact h1.elim
  · exact h1.elim

/-! ### texts -/
def chs (x : Str) : List D := x.cps.toList.map fun c => .str ⟨#[c]⟩
def strI (f : ME) : MI := fun ρ S => (f ρ S).bind fun u S1 => match u with
  | .d (.str x) => .ok (chs x) S1
  | _ => .un
theorem yl_str {G : Gc} {x m : List Addr} {H : Hp} {z : Str} : Yl G x m H (Its z) (chs z) := fun x2 m2 H2 hx E tr i => by
  refine ⟨fun d hd => ?_, fun hl => (by show z.cps.size ≤ i; rw [← hl]; simp [chs])⟩
  unfold chs at hd
  rw [List.getElem?_map] at hd
  cases q : z.cps.toList[i]? with
  | none => rw [q] at hd; cases hd
  | some c =>
    rw [q] at hd
    cases hd
    have q' : z.cps[i]? = some c := by simpa using q
    refine ⟨(Array.getElem?_eq_some_iff.mp q').1, fun v H3 ⟨e1, c', e2, e3⟩ => ?_⟩
    subst e1 e3
    rw [q'] at e2
    cases e2
    exact ⟨Ext.refl, fun _ _ _ => rfl, .str _⟩
theorem i_str (he : PE X e (tE (gOf X T) W f)) : PI X tg e (tI (gOf X T) W (strI f)) := pi_mono (pi_str he) fun σ H R h => by
  obtain ⟨x, m, ρ, S, p, h⟩ := h
  refine ⟨x, m, ρ, S, p, (Post.bind h).mono fun u S1 m1 H1 E1 R1 ⟨_, _, h1⟩ v rv => ?_⟩
  split at h1
  · cases rv with
    | d r =>
      cases r
      exact ⟨_, rfl, h1 m1 H1 Ext.refl R1 _ yl_str⟩
  · exact h1.elim
def strG : List D → Option D
  | [.int i] => if i.natAbs.log2 < 1920 then some (.str (toString i)) else none
  | [.str x] => some (.str x)
  | _ => none
theorem c_str : CallR X (.type "str") (rC (gOf X T) strG) := by
  intro pins s σ H vs us Q I rs ⟨ds, z, e, m, hg, tr, r, q⟩
  unfold strG at hg
  split at hg
  · split at hg
    · rename_i hl
      cases hg
      obtain ⟨v, rfl, r1⟩ := r.one
      cases r1.int
      exact call_str_int pins s σ H _ us Q I rs ⟨_, rfl, hl, q _ _ Ext.refl (noKeep rfl) (.str _)⟩
    · cases hg
  · cases hg
    obtain ⟨v, rfl, r1⟩ := r.one
    cases r1.str
    exact SkE.call_str_str pins s σ H _ us Q I rs ⟨_, rfl, q _ _ Ext.refl (noKeep rfl) (.str _)⟩
  · cases hg

/-! ### methods of texts -/
def meM (g : D → List D → Option D) (fo : ME) (fs : List ME) : ME := fun ρ S => (fo ρ S).bind fun u S1 => match u with
  | .d (.str z) => (argsM fs ρ S1).bind fun us S2 => match rds S2 us with
    | some ds => match g (.str z) ds with
      | some z => .ok (.d z) S2
      | none => .un
    | none => .un
  | _ => .un
def rM (G : Gc) (g : D → List D → Option D) : V → List V → Hp → VK → Prop := fun v vs H Q => ∃ z ds d e m, v = .str z ∧ g (.str z) ds = some d ∧ (∀ b ∈ e, ∃ o, H b = some o) ∧ RTs G e H ds vs ∧
  ∀ H' w, Ext G m H m H' → (∀ a ∈ m, H a ≠ none → H' a = H a) → RV G e H' d w → Q w H'
theorem me_red {g : D → List D → Option D} {fs : List ME} {σ : St} {H : Hp} {Q : VK} (h : tE (gOf X T) W (meM g f fs) σ H Q) : tBM X.K "str" (rM (gOf X T) g) (tE (gOf X T) W f) (tA (gOf X T) W (argsM fs)) σ H Q := by
  obtain ⟨x, m, ρ, S, p, h⟩ := h
  refine ⟨x, m, ρ, S, p, (Post.bind h).mono fun u S1 m1 H1 E1 R1 ⟨_, _, h1⟩ v rv => ?_⟩
  cases u with
  | c _ => exact h1.elim
  | t _ => exact h1.elim
  | d dd =>
   cases dd with
   | str z =>
    cases rv with
    | d r =>
      cases r
      have p1 := p.ext E1 R1
      refine ⟨rfl, x, m1, ρ, S1, p1, (Post.bind h1).mono fun us S2 m2 H2 E2 R2 ⟨_, _, h2⟩ vs rvs => ?_⟩
      have p2 := p1.ext E2 R2
      split at h2
      · rename_i ds q1
        split at h2
        · rename_i d q3
          exact ⟨z, ds, d, x ++ m2, m2, rfl, q3, p2.trk, RUs.rts R2 rvs q1, fun H' w' E3 hs r => h2 m2 H' E3 (R2.stay E3 fun a ha => hs a ha (by obtain ⟨o, q⟩ := R2.live ha; rw [q]; simp)) w' (.d r)⟩
        · exact h2.elim
      · exact h2.elim
   | _ => exact h1.elim
theorem e_me {id : String} {name : Str} {g : D → List D → Option D} {o : Expr} {es : List Expr} {fs : List ME} {apos : Pos} (slot : Slot "str" name id) (hty : typeOf (.builtin id) = pure (.type "method_descriptor")) (hm : MtR X id (rM (gOf X T) g)) (ho : PE X o (tE (gOf X T) W f)) (ha : PA X (e :: es) (tA (gOf X T) W (argsM fs)))
    (hbase : attributeBase o name X.env (eval o X.env) = eval o X.env := by rfl)
    (hfew : ((backTo pos (starEach (e :: es) X.env)).all (fun x => !x.1) && (backToKw pos (keywordEach [] X.env)).all (fun x => x.1.isSome)
      && decide ((e :: es).length + ([] : List Keyword).length + (if ([] : List Keyword).isEmpty then 0 else 1) < 30)) = true := by rfl)
    (hline : (apos.endLine == pos.line) = true := by rfl) (hs : starEach (e :: es) X.env = (false, eval e X.env) :: starEach es X.env := by rfl) (hplain : (backTo pos (starEach es X.env)).any (·.1) = false := by rfl) :
    PE X (.Call (.Attribute o name apos) (e :: es) [] pos) (tE (gOf X T) W (meM g f fs)) :=
  pe_mono (pe_bm PySem.F.plainAttrs_str slot hty hm ho ha hbase hfew hline hs hplain) fun σ H Q h => me_red h
def joinG : D → List D → Option D
  | .str a, [.lst xs] => match strsOf xs with
    | some ys => if (ys.map (·.length)).sum + ys.length * a.length ≤ big then some (.str (Txt.join a ys)) else none
    | none => none
  | .str a, [.tup xs] => match strsOf xs with
    | some ys => if (ys.map (·.length)).sum + ys.length * a.length ≤ big then some (.str (Txt.join a ys)) else none
    | none => none
  | _, _ => none
theorem big_join {n : Nat} (h : n ≤ big) : n ≤ 16777216 := Nat.le_trans h (by decide)
theorem mt_joinG : MtR X "str.join" (rM (gOf X T) joinG) := by
  intro pins s σ H x xs v us Q I rx rs ⟨z, ds, d, e, m, ez, hg, tr, r, q⟩
  subst ez
  unfold joinG at hg
  split at hg
  · rename_i q1
    cases q1
    split at hg
    · rename_i ys hy
      split at hg
      · rename_i hl
        cases hg
        obtain ⟨v, rfl, r1⟩ := r.one
        obtain ⟨a, vs, rfl, g1, g2⟩ := r1.lst'
        cases g2.strs hy
        exact mt_join pins s σ H _ _ _ us Q I rx rs ⟨_, a, ys, rfl, rfl, .inl (.of g1), big_join hl, q _ _ Ext.refl (noKeep rfl) (.str _)⟩
      · cases hg
    · cases hg
  · rename_i q1
    cases q1
    split at hg
    · rename_i ys hy
      split at hg
      · rename_i hl
        cases hg
        obtain ⟨v, rfl, r1⟩ := r.one
        obtain ⟨a, vs, rfl, g1, g2⟩ := r1.tup
        cases g2.strs hy
        exact mt_join pins s σ H _ _ _ us Q I rx rs ⟨_, a, ys, rfl, rfl, .inr g1, big_join hl, q _ _ Ext.refl (noKeep rfl) (.str _)⟩
      · cases hg
    · cases hg
  · cases hg
def splG : D → List D → Option D
  | .str a, [.str b] => if b.length ≠ 0 ∧ a.length ≤ big then some (.lst ((Txt.split a b).map .str)) else none
  | _, _ => none
theorem rvs_strs {G : Gc} {e : List Addr} {H : Hp} : ∀ ns : List Str, RVs G e H (ns.map D.str) (ns.map V.str)
  | [] => .nil
  | n :: ns => .cons (.str n) (rvs_strs ns)
theorem mt_splG : MtR X "str.split" (rM (gOf X T) splG) := by
  intro pins s σ H x xs v us Q I rx rs ⟨z, ds, d, e, m, ez, hg, tr, r, q⟩
  subst ez
  unfold splG at hg
  split at hg
  · rename_i q1
    cases q1
    split at hg
    · rename_i hl
      cases hg
      obtain ⟨v, rfl, r1⟩ := r.one
      cases r1.str
      exact mt_split pins s σ H _ _ _ us Q I rx rs ⟨_, _, rfl, rfl, by simpa using hl.1, Nat.le_trans (Nat.add_le_add_right hl.2 2) (by rw [sizeLine_eq]; decide), fun p np => q _ _ (Ext.new np) (newKeep np) (RV.newLst (rvs_strs _) np tr)⟩
    · cases hg
  · cases hg
abbrev joiM (f g : ME) : ME := meM joinG f [g]
abbrev splM (f g : ME) : ME := meM splG f [g]

/-! ### a dict of the module: texts as keys -/
def dlk : List (Str × D) → Str → Option D
  | [], _ => none
  | (k, v) :: r, x => if k = x then some v else dlk r x
structure KM (G : Gc) (x : Str) (tbl : List (Str × D)) : Prop where
  ex : ∃ (a : Addr) (es : Array DictEntry) (n : Nat), G.mg x = some (.ref a) ∧ G.K.lookup a = some ⟨.type "dict", none, .dict es n, #[]⟩ ∧ PySem.W.KeysLit G.w.params es.toList ∧ (a == sysModules) = false ∧
    ∀ z, ∃ r, PySem.W.nsIn G.K a z = some r ∧ match dlk tbl z with
      | none => r = none
      | some d => ∃ u v, r = some u ∧ RelV v u ∧ ∀ e H, RV G e H d v
def kmIx (tbl : List (Str × D)) (f : ME) : ME := fun ρ S => (f ρ S).bind fun u S1 => match u with
  | .d (.str z) => match dlk tbl z with
    | some d => .ok (.d d) S1
    | none => .un
  | _ => .un
def kmIn (tbl : List (Str × D)) (f : ME) : ME := fun ρ S => (f ρ S).bind fun u S1 => match u with
  | .d (.str z) => .ok (.d (.bl (dlk tbl z).isSome)) S1
  | _ => .un
theorem e_kmIx {x : Str} {tbl : List (Str × D)} {b : Expr} {px : Pos} (h : KM (gOf X T) x tbl) (hb : PE X b (tE (gOf X T) W f)) (hg : Gl X x := by rfl) (hd : (x == ("__debug__" : Str)) = false := by decide) (hs : PlainIx b := by intro _ _; rfl) :
    PE X (.Subscript (.Name x px) b pos) (tE (gOf X T) W (kmIx tbl f)) := by
  obtain ⟨a, es, n, h1, h2, h3, h4, h5⟩ := h.ex
  refine pe_mono (pe_ix (r := fun vx vy H Q => vx = .ref a ∧ ∃ z v, vy = .str z ∧ KDct X.K X.w a z v ∧ Q v H) (fun value slice pins s σ H x y v u Q I rx ry h hs => ?_) (pe_glob hg h1 (v := .ref a) rfl hd) hb hs) fun σ H Q h => ?_
  · obtain ⟨e1, z, r, e2, e3, q⟩ := h
    exact ix_kdict value slice pins s σ H x y v u Q I rx ry ⟨a, z, r, e1, e2, e3, q⟩ hs
  · obtain ⟨y, m, ρ, S, p, h⟩ := h
    refine ⟨y, m, ρ, S, p, (Post.bind h).mono fun u S1 m1 H1 E1 R1 ⟨_, _, h1'⟩ v rv => ?_⟩
    cases u with
    | c _ => exact h1'.elim
    | t _ => exact h1'.elim
    | d dd =>
     cases dd with
     | str z =>
      cases rv with
      | d r =>
        cases r
        dsimp only at h1'
        split at h1'
        · rename_i d hd'
          obtain ⟨r, r1, r2⟩ := h5 z
          rw [hd'] at r2
          obtain ⟨u, v, rfl, r3, r4⟩ := r2
          exact ⟨rfl, z, v, rfl, ⟨es, n, u, h2, h3, r1, r3⟩, h1' m1 H1 Ext.refl R1 _ (.d (r4 _ _))⟩
        · exact h1'.elim
     | _ => exact h1'.elim
theorem e_kmIn {x : Str} {tbl : List (Str × D)} {b : Expr} {px : Pos} (h : KM (gOf X T) x tbl) (hb : PE X b (tE (gOf X T) W f)) (hg : Gl X x := by rfl) (hd : (x == ("__debug__" : Str)) = false := by decide) :
    PE X (.Compare b [.In] [.Name x px] pos) (tE (gOf X T) W (kmIn tbl f)) := by
  obtain ⟨a, es, n, h1, h2, h3, h4, h5⟩ := h.ex
  refine pe_mono (pe_cmpR (op_in_kd ⟨h2, h3, h4⟩) hb (pe_glob hg h1 (v := .ref a) rfl hd) (by first | exact nomark _ | rfl)) fun σ H Q h => ?_
  obtain ⟨y, m, ρ, S, p, h⟩ := h
  refine ⟨y, m, ρ, S, p, (Post.bind h).mono fun u S1 m1 H1 E1 R1 ⟨_, _, h1'⟩ v rv => ?_⟩
  cases u with
  | c _ => exact h1'.elim
  | t _ => exact h1'.elim
  | d dd =>
   cases dd with
   | str z =>
    cases rv with
    | d r =>
      cases r
      obtain ⟨r, r1, r2⟩ := h5 z
      refine ⟨z, r, rfl, rfl, r1, ?_⟩
      have er : r.isSome = (dlk tbl z).isSome := by
        revert r2
        cases dlk tbl z with
        | none => intro r2; subst r2; rfl
        | some d => rintro ⟨u, v, rfl, _⟩; rfl
      rw [er]
      exact h1' m1 H1 Ext.refl R1 _ (.d (.bl _))
   | _ => exact h1'.elim
end
end Mir

/-! Mir16: the end: constants of the module; the law's own promise. -/
namespace Mir
open PySem PySem.Spec PyProof.Rows L2 RZ
mutual
/-- data of the module -/
inductive KVal (K : PySem.W.Frag) : D → Value → Prop
  | non : KVal K .non .none
  | bl (b : Bool) : KVal K (.bl b) (.bool b)
  | int (i : Int) (t : Tok) : KVal K (.int i) (.int i t)
  | str (x : Str) (t : Tok) : KVal K (.str x) (.str x t)
  | tup {a : Addr} {dd : Option Addr} {its : Array Value} {n : Nat} {sl : Array (Option Value)} {ds : List D} : K.lookup a = some ⟨.type "tuple", dd, .seq its n, sl⟩ → its.size ≤ 1000 → KVals K ds its.toList → KVal K (.tup ds) (.ref a)
inductive KVals (K : PySem.W.Frag) : List D → List Value → Prop
  | nil : KVals K [] []
  | cons {d : D} {u : Value} {ds : List D} {us : List Value} : KVal K d u → KVals K ds us → KVals K (d :: ds) (u :: us)
end
section
variable {G : Gc}
mutual
theorem KVal.ok : ∀ {d : D} {u : Value}, KVal G.K d u → ∃ v, RelV v u ∧ ∀ e H, RV G e H d v
  | _, _, .non => ⟨.non, rfl, fun _ _ => .non⟩
  | _, _, .bl b => ⟨.bl b, rfl, fun _ _ => .bl b⟩
  | _, _, .int i t => ⟨.int i, ⟨t, rfl⟩, fun _ _ => .int i⟩
  | _, _, .str x t => ⟨.str x, ⟨t, rfl⟩, fun _ _ => .str x⟩
  | _, _, .tup (a := a) (its := its) h1 h2 h3 => by
    obtain ⟨vs, h4, h5⟩ := KVals.ok h3
    exact ⟨.ref a, rfl, fun e H => .tup (.inr ⟨_, its, _, h1, rfl, rfl, Nat.le_of_lt (small1000 h2), h4⟩) (h5 e H)⟩
theorem KVals.ok : ∀ {ds : List D} {us : List Value}, KVals G.K ds us → ∃ vs, Vals vs us ∧ ∀ e H, RVs G e H ds vs
  | _, _, .nil => ⟨[], .nil, fun _ _ => .nil⟩
  | _, _, .cons h t => by
    obtain ⟨v, h1, h2⟩ := KVal.ok h
    obtain ⟨vs, h3, h4⟩ := KVals.ok t
    exact ⟨v :: vs, .cons h1 h3, fun e H => .cons (h2 e H) (h4 e H)⟩
end
end
section
variable {P : Program} {w : World} {K : PySem.W.Frag} {mg : Str → Option Value} {T : List (Addr × Str)} {h : Heap} {x : Str}
theorem kd_of {d : D} {u : Value} (X : K.In h) (G : h.Ns mainGlobals mg) (a : PySem.W.nsIn K mainGlobals x = some (some u)) (q : KVal K d u) : KD ⟨P, w, K, mg, T⟩ x d := by
  obtain ⟨v, h1, h2⟩ := KVal.ok (G := ⟨P, w, K, mg, T⟩) q
  exact ⟨u, v, PySem.W.mg_of X G a, h1, h2⟩
/-- the values of a written dict -/
inductive KEnts (K : PySem.W.Frag) : List (Str × D) → List DictEntry → Prop
  | nil : KEnts K [] []
  | cons {x : Str} {d : D} {e : DictEntry} {t : Tok} {ds : List (Str × D)} {es : List DictEntry} : e.key = .str x t → KVal K d e.val → KEnts K ds es → KEnts K ((x, d) :: ds) (e :: es)
theorem kents_find : ∀ {tbl : List (Str × D)} {es : List DictEntry} (z : Str), KEnts K tbl es → match dlk tbl z with
    | none => es.find? (fun e => e.key.isStr z) = none ∧ es.any (·.refKey) = false
    | some d => ∃ e, es.find? (fun e => e.key.isStr z) = some e ∧ KVal K d e.val
  | _, _, z, .nil => ⟨rfl, rfl⟩
  | _, _, z, .cons (x := y) (d := d) (e := e) (t := t) h1 h2 h3 => by
    have ih := kents_find z h3
    have hk : e.key.isStr z = (y == z) := by
      rw [PySem.W.isStr_of, h1]; rfl
    have hr : e.refKey = false := by
      unfold DictEntry.refKey
      rw [h1]
    unfold dlk
    by_cases q : y = z
    · rw [if_pos q]
      exact ⟨e, by rw [List.find?_cons, hk, beq_iff_eq.mpr q], h2⟩
    · rw [if_neg q]
      have q' : (y == z) = false := beq_eq_false_iff_ne.mpr q
      revert ih
      cases dlk _ z with
      | none => exact fun ih => ⟨by rw [List.find?_cons, hk, q']; exact ih.1, by rw [List.any_cons, hr]; exact ih.2⟩
      | some d' => exact fun ⟨e', h4, h5⟩ => ⟨e', by rw [List.find?_cons, hk, q']; exact h4, h5⟩
theorem km_of {tbl : List (Str × D)} {a : Addr} {es : Array DictEntry} {n : Nat} (X : K.In h) (G : h.Ns mainGlobals mg) (g : PySem.W.nsIn K mainGlobals x = some (some (.ref a))) (l : K.lookup a = some ⟨.type "dict", none, .dict es n, #[]⟩) (kl : PySem.W.KeysLit w.params es.toList)
    (lo : (a == sysModules) = false) (q : KEnts K tbl es.toList) : KM ⟨P, w, K, mg, T⟩ x tbl := by
  refine ⟨a, es, n, PySem.W.mg_of X G g, l, kl, lo, fun z => ?_⟩
  have hf := kents_find z q
  have hn : PySem.W.nsIn K a z = match es.toList.find? (fun e => e.key.isStr z) with
      | some e => some (some e.val)
      | none => if es.toList.any (·.refKey) then none else some none := by
    unfold PySem.W.nsIn
    rw [l]
    rfl
  revert hf
  cases dlk tbl z with
  | none =>
    rintro ⟨h1, h2⟩
    exact ⟨none, by rw [hn, h1, h2]; rfl, rfl⟩
  | some d =>
    rintro ⟨e, h1, h2⟩
    obtain ⟨v, h3, h4⟩ := KVal.ok (G := ⟨P, w, K, mg, T⟩) h2
    exact ⟨some e.val, by rw [hn, h1], e.val, v, rfl, h3, h4⟩
end
/-! ### the law -/
/-- what is promised of law: of a script that nobody changes, True -/
def spLaw (K : PySem.W.Frag) : Sp := fun vs H Q _ => ∃ (a : Addr) (ns : List Int), vs = [.ref a] ∧ ns.length ≤ 63 ∧ Sc K H a ns ∧ ∀ H', Q (.bl true) H'
theorem sc_of {K : PySem.W.Frag} {H : Hp} {a : Addr} {ns : List Int} (hO : Only H) (hS : SqL K H a (ns.map V.int)) : Sc K H a ns := by
  rcases hS with (h | h) | h
  · rcases hO a with z | ⟨o, xs, z⟩
    · rw [z] at h; cases h
    · rw [z] at h; cases h
  · exact .inl h
  · exact .inr h
theorem law_imp {P : Program} {w : World} {K : PySem.W.Frag} {mg : Str → Option Value} {base : Heap} {k : Nat} {f : Addr} {fd : FuncData} {F : List D → R} (h : FnOk P w K mg base (L2.CX P w) k f fd ["script"] (sp0 ⟨P, w, K, mg, []⟩ 1 F))
    (hF : ∀ ns : List Int, ns.length ≤ 63 → F [.scr ns] = .ok (.bl true)) : FnOk P w K mg base (L2.CX P w) k f fd ["script"] (spLaw K) := h.imp fun vs H Q E ⟨a, ns, e, hl, hS, hQ⟩ => by
  subst e
  refine ⟨rfl, [], [.scr ns], fun _ z => (by cases z), fun _ z => (by cases z), .cons (.scr hS) .nil, ?_⟩
  rw [hF ns hl]
  intro H' v _ r
  cases r
  exact hQ H'
theorem cx_none {P : Program} {w : World} {H : Hp} {s : Shared} {e : Value} {s' : Shared} (h : L2.CX P w [] H s (fun _ _ _ => False) e s') : False := by
  obtain ⟨_, _, _, _, _, _, _, _, _, _, _, _, h⟩ := h
  exact h
theorem kn_of {P : Program} {w : World} {K : PySem.W.Frag} {mg : Str → Option Value} {base : Heap} {T : List (Addr × Str)} {h : Heap} {j k : Nat} {x : Str} {f : Addr} {fd : FuncData} {ps : List Str} {sp : Sp} (X : K.In h) (G : h.Ns mainGlobals mg) (hF : FnOk P w K mg base (L2.CX P w) j f fd ps sp) (a : PySem.W.nsIn K mainGlobals x = some (some (.ref f))) (kp : PySem.W.keepIn K (.ref f) = true) (b : Binds K fd ps []) (hk : j ≤ k) :
    Kn ⟨P, w, K, mg, T⟩ base k x sp := ⟨f, fd, ps, hF.mono hk, PySem.W.mg_of X G a, kp, b⟩
end Mir

/-! Mir17: a comprehension's list as a cell. -/
namespace Mir
open PySem PySem.Spec PyProof.Rows L2 RZ
def nlcM (it : MI) (tg : Tg) (t : MT) (f : ME) (own : List Nat) : ME := fun ρ S => (it ρ S).bind fun ds S1 =>
  if ds.length ≤ big then match lcL tg t f (wipeE ρ own) ds S1 with
    | .ok ys S2 => .ok (.c S2.length) (S2 ++ [.lst ys])
    | _ => .un
  else .un
section
variable {X : Cx} {T : List (Addr × Str)} {W : WX}
theorem nlc_red {fi : MI} {t : MT} {f : ME} {tgt : Tg} {own : List Nat} (ho : ∀ i ∈ tgt.ix, i ∈ own) {σ : St} {H : Hp} {Q : VK} (h : tE (gOf X T) W (nlcM fi tgt t f own) σ H Q) :
    tLc (tI (gOf X T) W fi) (gT X.K tgt) (tT (gOf X T) WF t) (tE (gOf X T) WF f) own σ H Q := by
  obtain ⟨x, m, ρ, S, p, h⟩ := h
  refine ⟨x, m, ρ, S, p, (Post.bind h).mono fun ds S1 m1 H1 E1 R1 ⟨_, _, h1⟩ J hJ => fun D₀ hD => ?_⟩
  have p1 := p.ext E1 R1
  split at h1
  case isFalse => exact h1.elim
  case isTrue hbig =>
  cases hL : lcL tgt t f (wipeE ρ own) ds S1 with
  | un => rw [hL] at h1; exact h1.elim
  | ex ee S' => rw [hL] at h1; exact h1.elim
  | ok ys Sf =>
    rw [hL] at h1
    refine ⟨fun i k H2 => ∃ m2 S2 acc vacc rest, k = ds.length - i ∧ i ≤ ds.length ∧ Ext (gOf X T) m1 H1 m2 H2 ∧ Rp (gOf X T) (D₀ :: x) m2 H2 (wipeE ρ own) S2 (L2.wipe σ own) ∧ H2 D₀ = some (.lst vacc) ∧
      RVs (gOf X T) (D₀ :: x ++ m2) H2 acc vacc ∧ vacc.length ≤ i ∧ lcL tgt t f (wipeE ρ own) (ds.drop i) S2 = .ok rest Sf ∧ ys = acc ++ rest ∧ D₀ ∉ m2,
      ⟨ds.length, m1, S1, [], [], ys, by simp, Nat.zero_le _, Ext.new hD, ⟨(RE.wipeS own p1.env).keep (Keep.hide hD), R1.keep (Keep.hide hD) (fun b hb => List.mem_cons_of_mem _ (List.mem_append_right _ hb)) (fun a ha => by
          obtain ⟨u, q⟩ := R1.live ha
          rw [upd_ne (ne_of_none q hD)]) (fun b y q => by rw [upd_ne (ne_of_none q hD)]; exact q), fun b hb => ?_, p1.tab.ext fun b u q => by rw [upd_ne (ne_of_none q hD)]; exact q⟩, upd_same, .nil, Nat.zero_le _, by rw [List.drop_zero]; exact hL, rfl, fun z => by
          obtain ⟨u, q⟩ := R1.live z
          rw [hD] at q; cases q⟩, ?_⟩
    · rcases List.mem_cons.mp hb with z | z
      · rw [z]; exact ⟨_, upd_same, fun ps z => by cases z⟩
      · obtain ⟨u, q, qn⟩ := p1.ex b z
        exact ⟨u, by rw [upd_ne (ne_of_none q hD)]; exact q, qn⟩
    rintro i k H2 ⟨m2, S2, acc, vacc, rest, rfl, hi, E2, p2, hd2, r2, hv, hl, hy, nD⟩
    have hY := hJ (D₀ :: x) m2 H2 (fun b hb => by
      rcases List.mem_cons.mp hb with z | z
      · exact .inr (by rw [z]; exact hD)
      · exact .inl z) E2 p2.trk i
    by_cases hlt : i < ds.length
    · obtain ⟨hgo, hyl⟩ := hY.1 ds[i] (List.getElem?_eq_getElem hlt)
      rw [List.drop_eq_getElem_cons hlt] at hl
      simp only [lcL] at hl
      refine .inr ⟨hgo, fun H3 => ∃ m3 S3 acc vacc rest, Ext (gOf X T) m1 H1 m3 H3 ∧ Rp (gOf X T) (D₀ :: x) m3 H3 (wipeE ρ own) S3 (L2.wipe σ own) ∧ H3 D₀ = some (.lst vacc) ∧
        RVs (gOf X T) (D₀ :: x ++ m3) H3 acc vacc ∧ vacc.length ≤ i + 1 ∧ lcL tgt t f (wipeE ρ own) (ds.drop (i + 1)) S3 = .ok rest Sf ∧ ys = acc ++ rest ∧ D₀ ∉ m3,
        fun H3 ⟨m3, S3, acc, vacc, rest, a1, a2, a3, a4, a5, a6, a7, a8⟩ => ⟨ds.length - (i + 1), by omega, m3, S3, acc, vacc, rest, rfl, hlt, a1, a2, a3, a4, a5, a6, a7, a8⟩, fun v H3 yv => ?_⟩
      obtain ⟨E3, k3, r3⟩ := hyl v H3 yv
      have R3 : RS (gOf X T) (D₀ :: x ++ m2) m2 H3 S2 := p2.sto.stay E3 fun a ha => k3 a ha (by obtain ⟨o, q⟩ := p2.sto.live ha; rw [q]; simp)
      have p3 := p2.ext E3 R3
      cases hs : setT tgt ds[i] (wipeE ρ own) with
      | none => rw [hs] at hl; cases hl
      | some ρ' =>
        rw [hs] at hl
        dsimp only at hl
        refine tg_ok r3 p3.env hs ho fun σ' re' hw => ⟨by rw [hw, wipe_idem], ?_⟩
        have q3 : Rp (gOf X T) (D₀ :: x) m2 H3 ρ' S2 σ' := ⟨re', R3, p3.ex, p3.tab⟩
        have nD' : ∀ {m m' : List Addr} {H H' : Hp}, Ext (gOf X T) m H m' H' → D₀ ∉ m → Nt H D₀ → D₀ ∉ m' := fun E n q z => by
          obtain ⟨nw, e1, f1⟩ := E.pre
          rw [e1] at z
          rcases List.mem_append.mp z with z | z
          · exact n z
          · exact f1 _ z q
        have d3 : H3 D₀ = some (.lst vacc) := E3.keep _ _ hd2 nD (fun ps z => by cases z)
        refine ⟨D₀ :: x, m2, ρ', S2, q3, ?_⟩
        cases ht : t ρ' S2 with
        | un => rw [ht] at hl; cases hl
        | ex ee S' => rw [ht] at hl; cases hl
        | ok b S3 =>
          rw [ht] at hl
          intro m4 H4 E4 R4
          have q4 := q3.ext E4 R4
          have d4 : H4 D₀ = some (.lst vacc) := E4.keep _ _ d3 nD (fun ps z => by cases z)
          have n4 := nD' E4 nD ⟨_, d3, fun ps z => by cases z⟩
          cases b with
          | false =>
            refine iteF ⟨m4, S3, acc, vacc, rest, (E2.trans E3).trans E4, ⟨(p3.ext E4 R4).env, R4, (p3.ext E4 R4).ex, (p3.ext E4 R4).tab⟩, d4, r2.keep ((E3.trans E4).kp), by omega, hl, hy, n4⟩
          | true =>
            refine iteT ⟨D₀ :: x, m4, ρ', S3, q4, ?_⟩
            dsimp only at hl
            cases hf : f ρ' S3 with
            | un => rw [hf] at hl; cases hl
            | ex ee S' => rw [hf] at hl; cases hl
            | ok u S4 =>
              rw [hf] at hl
              cases u with
              | c j => cases hl
              | t j => cases hl
              | d y =>
                dsimp only at hl
                cases hr : lcL tgt t f (wipeE ρ own) (ds.drop (i + 1)) S4 with
                | un => rw [hr] at hl; cases hl
                | ex ee S' => rw [hr] at hl; cases hl
                | ok rest' S5 =>
                  rw [hr] at hl
                  cases hl
                  intro m5 H5 E5 R5 w rw'
                  have d5 : H5 D₀ = some (.lst vacc) := E5.keep _ _ d4 n4 (fun ps z => by cases z)
                  have n5 := nD' E5 n4 ⟨_, d4, fun ps z => by cases z⟩
                  have E35 := (E3.trans E4).trans E5
                  have p5 := p2.ext E35 R5
                  have kg : Keep (gOf X T) (D₀ :: x ++ m5) H5 (D₀ :: x ++ m5) (upd H5 D₀ (.lst (vacc ++ [w]))) := Keep.grow d5 List.mem_cons_self
                  refine ⟨vacc, d5, Nat.lt_of_le_of_lt hv (Nat.lt_of_lt_of_le hlt (big_ok hbig)), m5, S4, acc ++ [y], vacc ++ [w], rest', (E2.trans E35).grow hD d5, ⟨p5.env.keep kg, R5.keep kg (fun b hb => List.mem_append_right _ hb) (fun a ha => upd_ne fun z => n5 (z ▸ ha)) (fun b y q => by
                      rw [upd_ne (fun z => by rw [z, d5] at q; cases q)]; exact q), fun b hb => ?_, ?_⟩, upd_same, ?_, by simp; omega, hr, by rw [hy]; simp, n5⟩
                  · by_cases z : b = D₀
                    · rw [z]; exact ⟨_, upd_same, fun ps z => by cases z⟩
                    · obtain ⟨o, q, qn⟩ := p5.ex b hb
                      exact ⟨o, by rw [upd_ne z]; exact q, qn⟩
                  · exact ((E2.trans E35).grow hD d5).tab p1.tab
                  · refine (RVs.append (r2.keep E35.kp) (.cons ?_ .nil)).keep kg
                    cases rw' with
                    | d r => exact r
    · have e : i = ds.length := by omega
      rw [e, List.drop_length] at hl
      cases hl
      rw [List.append_nil] at hy
      subst hy
      refine .inl ⟨hY.2 (by omega), ?_⟩
      have ks : Keep (gOf X T) (D₀ :: x ++ m2) H2 (x ++ (m2 ++ [D₀])) H2 := keep_sub fun a ha => by
        rcases List.mem_append.mp ha with z | z
        · exact List.mem_append_left _ (List.mem_cons_of_mem _ z)
        · rcases List.mem_append.mp z with z | z
          · exact List.mem_append_right _ z
          · have : a = D₀ := by simpa using z
            rw [this]; exact List.mem_append_left _ List.mem_cons_self
      have E3 : Ext (gOf X T) m1 H1 (m2 ++ [D₀]) H2 := by
        refine ⟨E2.keep, E2.tups, E2.frzs, E2.owns, E2.live, ?_, E2.tab⟩
        obtain ⟨nw, e1, f1⟩ := E2.pre
        refine ⟨nw ++ [D₀], by rw [e1, List.append_assoc], fun b hb => ?_⟩
        rcases List.mem_append.mp hb with z | z
        · exact f1 b z
        · have : b = D₀ := by simpa using z
          rw [this]; exact fun ⟨u, q, _⟩ => by rw [hD] at q; cases q
      have R3 : RS (gOf X T) (x ++ (m2 ++ [D₀])) (m2 ++ [D₀]) H2 (Sf ++ [.lst ys]) := by
        have q := p2.sto.keep ks (fun b hb => List.mem_append_right _ (List.mem_append_left _ hb)) (fun _ _ => rfl) fun _ _ q => q
        refine ⟨by simp [q.len], List.nodup_append.mpr ⟨q.nd, by simp, fun a ha b hb z => ?_⟩, fun b hb => List.mem_append_right _ hb, fun i a c h1 h2 => ?_⟩
        · have : b = D₀ := by simpa using hb
          rw [z, this] at ha
          exact nD ha
        · by_cases hi : i < m2.length
          · rw [List.getElem?_append_left hi] at h1
            rw [List.getElem?_append_left (by rw [← q.len]; exact hi)] at h2
            exact q.at' i a c h1 h2
          · have e1 : i = m2.length := by
              have := (List.getElem?_eq_some_iff.mp h1).1
              simp at this
              omega
            subst e1
            rw [List.getElem?_append_right (Nat.le_refl _), Nat.sub_self] at h1
            rw [q.len, List.getElem?_append_right (Nat.le_refl _), Nat.sub_self] at h2
            have e2 : D₀ = a := Option.some.inj h1
            have e3 : Cell.lst ys = c := Option.some.inj h2
            subst e2 e3
            exact ⟨_, hd2, .lst (r2.keep ks)⟩
      exact h1 (m2 ++ [D₀]) H2 E3 R3 _ (.c (by rw [← p2.sto.len]; simp))
variable {elt tg iter : Expr} {ifs : List Expr} {scope : Scope} {own : List (Str × Nat)} {pos spos : Pos} {fi : MI} {t : MT} {f : ME}
theorem e_nlc (tgt : Tg) (own : List (Str × Nat)) (hc : X.calm = true) (hN : X.N.Nodup) (hi : PI X tg iter (tI (gOf X T) W fi)) (ok : BlkOk X.N X.env.scope scope own)
    (hg : ∀ (s : Shared) (H : Hp) (C : Addr) (cl : List (Str × Addr)) (fp : List Addr), PG (X.blk s H scope (compEnvC scope cl C X.env) fp) tg (gT X.K tgt))
    (ht : ∀ (s : Shared) (H : Hp) (C : Addr) (cl : List (Str × Addr)) (fp : List Addr), Takes (X.blk s H scope (compEnvC scope cl C X.env) fp) WF → PTs (X.blk s H scope (compEnvC scope cl C X.env) fp) ifs (tT (gOf (X.blk s H scope (compEnvC scope cl C X.env) fp) T) WF t))
    (he : ∀ (s : Shared) (H : Hp) (C : Addr) (cl : List (Str × Addr)) (fp : List Addr), Takes (X.blk s H scope (compEnvC scope cl C X.env) fp) WF → PE (X.blk s H scope (compEnvC scope cl C X.env) fp) elt (tE (gOf (X.blk s H scope (compEnvC scope cl C X.env) fp) T) WF f))
    (ho : ∀ i ∈ tgt.ix, i ∈ own.map (·.2)) (hs : ∀ x, foldedSetIterable iter X.env x = pure x := by intro _; rfl) : PE X (.ListComp elt [⟨tg, iter, ifs, 0⟩] scope pos) (tE (gOf X T) W (nlcM fi tgt t f (own.map (·.2)))) :=
  pe_mono (pe_lc hc hN hi ok hg (fun s H C cl fp => ht s H C cl fp takes0) (fun s H C cl fp => he s H C cl fp takes0) hs) fun σ H Q h => nlc_red ho h
theorem s_nlc (i : Nat) (tgt : Tg) (own : List (Str × Nat)) {y : Str} {py : Pos} (hc : X.calm = true) (hN : X.N.Nodup) (hi : PI X tg iter (tI (gOf X T) W fi)) (ok : BlkOk X.N X.env.scope scope own)
    (hg : ∀ (s : Shared) (H : Hp) (C : Addr) (cl : List (Str × Addr)) (fp : List Addr), PG (X.blk s H scope (compEnvC scope cl C X.env) fp) tg (gT X.K tgt))
    (ht : ∀ (s : Shared) (H : Hp) (C : Addr) (cl : List (Str × Addr)) (fp : List Addr), Takes (X.blk s H scope (compEnvC scope cl C X.env) fp) WF → PTs (X.blk s H scope (compEnvC scope cl C X.env) fp) ifs (tT (gOf (X.blk s H scope (compEnvC scope cl C X.env) fp) T) WF t))
    (he : ∀ (s : Shared) (H : Hp) (C : Addr) (cl : List (Str × Addr)) (fp : List Addr), Takes (X.blk s H scope (compEnvC scope cl C X.env) fp) WF → PE (X.blk s H scope (compEnvC scope cl C X.env) fp) elt (tE (gOf (X.blk s H scope (compEnvC scope cl C X.env) fp) T) WF f))
    (ho : ∀ i ∈ tgt.ix, i ∈ own.map (·.2)) (hsw : swapsWith (.ListComp elt [⟨tg, iter, ifs, 0⟩] scope pos) (some (.Name y py)) spos.line X.env = pure true) (hy : X.N[i]? = some y := by rfl) (hyl : X.env.scope.names.lookup y = some .local := by rfl) (hs : ∀ x, foldedSetIterable iter X.env x = pure x := by intro _; rfl) :
    PS X (.Assign [.Name y py] (.ListComp elt [⟨tg, iter, ifs, 0⟩] scope pos) spos) (tS (gOf X T) W (asgM (nlcM fi tgt t f (own.map (·.2))) (namG i))) :=
  ps_mono (ps_setLc hc hN hy hyl hsw hi ok hg (fun s H C cl fp => ht s H C cl fp takes0) (fun s H C cl fp => he s H C cl fp takes0) hs) fun Dn σ H h => by
    refine nlc_red (W := W) (f := f) (t := t) ho ?_
    obtain ⟨x, m, ρ, S, p, h⟩ := h
    refine ⟨x, m, ρ, S, p, (Post.toS h p).mono fun u S1 m1 H1 E1 R1 ⟨_, _, h1⟩ v rv => ?_⟩
    have p1 := p.ext E1 R1
    exact h1 m1 H1 _ Ext.refl ⟨p1.env.set rv i, p1.sto, p1.ex, p1.tab⟩
end
end Mir

/-! Mir18: try and its clauses. -/
namespace Mir
open PySem PySem.Spec PyProof.Rows L2 RZ
/-- is the class x one of y: by names -/
def slk : List (Str × Str × Bool) → Str → Str → Option Bool
  | [], _, _ => none
  | (a, b, r) :: t, x, y => if a = x ∧ b = y then some r else slk t x y
def XS (G : Gc) (tbl : List (Str × Str × Bool)) : Prop := ∀ p ∈ tbl, ∃ C D, G.mg p.1 = some (.ref C) ∧ G.mg p.2.1 = some (.ref D) ∧ PySem.W.exmOne G.K (.ref C) (.ref D) = some p.2.2
theorem slk_ok {G : Gc} : ∀ {tbl : List (Str × Str × Bool)} {x y : Str} {b : Bool}, XS G tbl → slk tbl x y = some b → ∃ C D, G.mg x = some (.ref C) ∧ G.mg y = some (.ref D) ∧ PySem.W.exmOne G.K (.ref C) (.ref D) = some b
  | [], _, _, _, _, h => by simp [slk] at h
  | (a, c, r) :: t, x, y, b, hx, h => by
    unfold slk at h
    split at h
    · rename_i e
      obtain ⟨rfl, rfl⟩ := e
      cases h
      exact hx _ List.mem_cons_self
    · exact slk_ok (fun p hp => hx p (List.mem_cons_of_mem _ hp)) h
def noX : SO → SO
  | .ex _ _ _ => .un
  | o => o
def hndM (tbl : List (Str × Str × Bool)) : List (Str × MS) → Exn → MS
  | [], e, ρ, S => .ex e ρ S
  | (y, g) :: r, e, ρ, S => match slk tbl e.cls y with
    | some true => noX (g ρ S)
    | some false => hndM tbl r e ρ S
    | none => .un
def tryM (tbl : List (Str × Str × Bool)) (f : MS) (hs : List (Str × MS)) : MS := fun ρ S => match f ρ S with
  | .ex e ρ' S' => hndM tbl hs e ρ' S'
  | o => o
section
variable {X : Cx} {T : List (Addr × Str)} {W : WX}
/-- the clauses and what stands for them -/
inductive MHds (X : Cx) (T : List (Addr × Str)) : List ExceptHandler → List (Str × MS) → List (Value × (Addr → Value → Option Addr → TS)) → Prop
  | nil : MHds X T [] [] []
  | cons {x : Str} {C : Addr} {g : MS} {b₀ : Stmt} {suite : List Stmt} {np pos' : Pos} {hds : List ExceptHandler} {hs : List (Str × MS)} {l : List (Value × (Addr → Value → Option Addr → TS))} (hm : X.mg x = some (.ref C)) (hg : Gl X x) (hd : (x == ("__debug__" : Str)) = false)
      (hsu : ∀ (a : Addr) (oe : Obj) (pn : List (Addr × Obj)), PSs (X.suite a ((a, oe) :: pn)) (b₀ :: suite) (tS (gOf (X.suite a ((a, oe) :: pn)) T) WF g)) (r : MHds X T hds hs l) :
      MHds X T (.ExceptHandler (some (.Name x np)) none (b₀ :: suite) pos' :: hds) ((x, g) :: hs) ((.ref C, fun _ _ _ => tS (gOf X T) WF g) :: l)
theorem MHds.hds {hds : List ExceptHandler} {hs : List (Str × MS)} {l : List (Value × (Addr → Value → Option Addr → TS))} (h : MHds X T hds hs l) : HdsOk X hds l := by
  induction h with
  | nil => exact .nil
  | cons hm hg hd hsu r ih => exact .cons ⟨hg, hd, .inl hm⟩ (fun a oe cls d pn _ _ => hsu a oe pn) ih
theorem noX_post {G : Gc} {x m : List Addr} {H : Hp} {o : SO} {Dn : Ends} (h : PostS G W x m H (noX o) Dn) : PostS G WF x m H o Dn := by
  cases o with
  | ex e ρ S => exact h.elim
  | nx _ _ => exact h
  | rt _ _ => exact h
  | bk _ _ => exact h
  | ct _ _ => exact h
  | un => exact h
theorem hnd_ok {tbl : List (Str × Str × Bool)} (xs : XS (gOf X T) tbl) {x m : List Addr} {H : Hp} {σ : St} {ρ : Env} {S : Sto} {e : Exn} {cls : Value} {d : Option Addr} {Dn : Ends} (p : Rp (gOf X T) x m H ρ S σ) (rx : RX (gOf X T) (x ++ m) H e cls d) :
    ∀ {hds : List ExceptHandler} {hs : List (Str × MS)} {l : List (Value × (Addr → Value → Option Addr → TS))}, MHds X T hds hs l → PostS (gOf X T) W x m H (hndM tbl hs e ρ S) Dn → wMany X.K W Dn l cls d σ H := by
  intro hds hs l hh
  induction hh with
  | nil => exact fun h => h m H σ cls d Ext.refl p rx
  | @cons y C g b₀ suite np pos' hds hs l hm hg hd hsu r ih =>
    intro h
    unfold hndM at h
    cases q : slk tbl e.cls y with
    | none => rw [q] at h; exact h.elim
    | some b =>
      rw [q] at h
      obtain ⟨C1, D1, h1, h2, h3⟩ := slk_ok xs q
      obtain ⟨C2, e1, e2, _⟩ := rx
      have e3 : C1 = C2 := by
        have := h1.symm.trans e2
        cases this; rfl
      have e4 : D1 = C := by
        have := h2.symm.trans hm
        cases this; rfl
      subst e3 e4
      refine ⟨b, by rw [e1]; exact h3, fun hb a _ => ?_, fun hb => ?_⟩
      · subst hb
        exact ⟨x, m, ρ, S, p, noX_post h⟩
      · subst hb
        exact ih h
theorem s_try {tbl : List (Str × Str × Bool)} {body : List Stmt} {f : MS} {hds : List ExceptHandler} {h₀ : ExceptHandler} {hs : List (Str × MS)} {l : List (Value × (Addr → Value → Option Addr → TS))} {pos : Pos} (xs : XS (gOf X T) tbl) (tk : Takes X W)
    (hb : ∀ (W' : WX) (pn : List (Addr × Obj)) (xe : Value → Shared → Prop), Takes (X.tr pn xe) W' → PassesOwn (model X.prog X.w) X.A X.env xe → PSs (X.tr pn xe) body (tS (gOf (X.tr pn xe) T) W' f))
    (hh : MHds X T (h₀ :: hds) hs l) (hs1 : X.stack = X.env :: X.outer := by rfl) (hf : X.env.frame = some X.env.locals := by rfl) : PS X (.Try body (h₀ :: hds) [] [] pos) (tS (gOf X T) W (tryM tbl f hs)) :=
  ps_mono (ps_try_many hs1 hf tk (tb := fun W' => tS (gOf X T) W' f) hb hh.hds) fun Dn σ H h => by
    obtain ⟨x, m, ρ, S, p, h⟩ := h
    refine ⟨x, m, ρ, S, p, ?_⟩
    unfold tryM at h
    cases q : f ρ S with
    | ex e ρ' S' =>
      rw [q] at h
      exact fun m' H' σ' cls d E p' rx => hnd_ok xs p' rx hh (PostS.shift E h)
    | nx _ _ => rw [q] at h; exact h
    | rt _ _ => rw [q] at h; exact h
    | bk _ _ => rw [q] at h; exact h
    | ct _ _ => rw [q] at h; exact h
    | un => rw [q] at h; exact h.elim
end
end Mir

/-! Mir19: a def that calls the lambda that it got, and tells how that ended. -/
namespace Mir
open PySem PySem.Spec PyProof.Rows L2 RZ LamX
def hsel (tbl : List (Str × Str × Bool)) : List (Str × Str) → Str → Option Str
  | [], _ => none
  | (y, r) :: t, x => match slk tbl x y with
    | some true => some r
    | some false => hsel tbl t x
    | none => none
def lamM (tbl : List (Str × Str × Bool)) (hs : List (Str × Str)) (fine : Str) (f : ME) : ME := fun ρ S => match f ρ S with
  | .ok _ S' => .ok (.d (.str fine)) S'
  | .ex e S' => match hsel tbl hs e.cls with
    | some r => .ok (.d (.str r)) S'
    | none => .un
  | .un => .un
def hval (K : PySem.W.Frag) : List (Value × Str) → Value → Hp → VK → Prop
  | [], _, _, _ => False
  | (c, r) :: t, cls, H, Q => ∃ b, PySem.W.exmOne K cls c = some b ∧ (b = true → Q (.str r) H) ∧ (b = false → hval K t cls H Q)
def TTw (K : PySem.W.Frag) (cs : List (Value × Str)) (fine : Str) : (XK → Hp → VK → Prop) → Hp → VK → Prop := fun tl H Q => tl (fun cls _ H' => hval K cs cls H' Q) H fun _ H' => Q (.str fine) H'
/-- the clauses of such a def -/
inductive WH (mg : Str → Option Value) (sg : Scope) : List ExceptHandler → List (Str × Str) → List (Value × Str) → Prop
  | nil : WH mg sg [] [] []
  | cons {e r : Str} {C : Addr} {np p5 p6 p7 : Pos} {j : Nat} {hds : List ExceptHandler} {hs : List (Str × Str)} {cs : List (Value × Str)} (hme : mg e = some (.ref C)) (hge : sg.names.lookup e = some .globalImplicit) (hde : (e == ("__debug__" : Str)) = false) (rest : WH mg sg hds hs cs) :
      WH mg sg (.ExceptHandler (some (.Name e np)) none [.Return (some (.Constant (.str r) j p5)) p6] p7 :: hds) ((e, r) :: hs) ((.ref C, r) :: cs)
section
variable {X : Cx}
def wl (cs : List (Value × Str)) : List (Value × (Addr → Value → Option Addr → TS)) := cs.map fun p => (p.1, fun _ _ _ D _ H => D.rt (.str p.2) H)
theorem WH.hds {Z : Cx} {sg : Scope} {hds : List ExceptHandler} {hs : List (Str × Str)} {cs : List (Value × Str)} (h : WH Z.mg sg hds hs cs) (hz : Z.env.scope = sg) (hgl : ∀ e, sg.names.lookup e = some .globalImplicit → Gl Z e) : HdsOk Z hds (wl cs) := by
  induction h with
  | nil => exact .nil
  | cons hme hge hde rest ih => exact .cons ⟨hgl _ hge, hde, .inl hme⟩ (fun a oe cls d pn _ _ => pss_one (ps_mono (ps_ret pe_str) fun Dn σ H h => h)) ih
theorem hval_many {K : PySem.W.Frag} {W : WX} {D : Ends} {cls : Value} {d : Option Addr} {σ : L2.St} {H : Hp} : ∀ {cs : List (Value × Str)}, hval K cs cls H D.rt → wMany K W D (wl cs) cls d σ H
  | [], h => h.elim
  | (c, r) :: t, ⟨b, h1, h2, h3⟩ => ⟨b, h1, fun hb a _ => h2 hb, fun hb => hval_many (h3 hb)⟩
theorem word_gives {Ng : List Str} {x a q fine : Str} {sg : Scope} {g : Addr} {cdg : Value} {h₀ : ExceptHandler} {hds : List ExceptHandler} {hs : List (Str × Str)} {cs : List (Value × Str)} {j : Nat} {p1 p2 p3 p4 p5 p8 : Pos} (hw : WH X.mg sg (h₀ :: hds) hs cs) (h0 : ∀ f : Addr, (L2.start Ng [V.ref f])[0]? = some (some (V.ref f))) :
    GivesTo X Ng x sg g cdg [.Try [.Expr (.Call (.Name a p1) [] [] p2) p3] (h₀ :: hds) [] [] p8, .Return (some (.Constant (.str fine) j p4)) p5] a q (TTw X.K cs fine) := by
  intro f c' s H Q tl act hc h
  refine ⟨_, pss_cons (ps_try_many (X := (cxOf C8.CX0 X.prog X.w X.K X.mg X.base Ng x sg g cdg X.A X.stack s H C8.E0).nox) (l := wl cs)
      (tb := fun W D σ H => ∃ Ech : XK, (∀ cls d σ' H', Ech cls d H' → W cls d σ' H') ∧ σ[0]? = some (some (.ref f)) ∧ H c' = some (CodeO c' q) ∧ tl Ech H fun _ H' => D.nx σ H')
      rfl rfl L2.takes0 (fun W pn xe tk _ => ?_) (hw.hds (Z := (cxOf C8.CX0 X.prog X.w X.K X.mg X.base Ng x sg g cdg X.A X.stack s H C8.E0).nox) rfl fun e he => he)) (pss_one (ps_ret pe_str)), ?_⟩
  · refine ⟨fun pins s' σ H' D I h' => ?_⟩
    obtain ⟨Ech, hW, h1, h2, h3⟩ := h'
    have hp := act W pn xe Ech p1 p2 tk hW
    have hq := pss_one (ps_expr (pos := p3) hp rfl)
    exact hq.run pins s' σ H' D I ⟨h1, h2, h3⟩
  · exact ⟨fun cls _ H' => hval X.K cs cls H' Q, fun cls d σ' H' h => hval_many h, h0 f, hc, h⟩
end
/-- such a def, by its name -/
structure Wd (G : Gc) (x : Str) (hs : List (Str × Str)) (fine : Str) : Prop where
  ex : ∃ (st : Stmt) (g : Addr) (fd : FuncData) (a : Str) (Ng : List Str) (h₀ : ExceptHandler) (hds : List ExceptHandler) (cs : List (Value × Str)) (j : Nat) (p1 p2 p3 p4 p5 p8 : Pos), Fun G.K x x st g fd ∧ G.mg x = some (.ref g) ∧ Binds G.K fd [a] [] ∧ FnScope Ng [a] (defScope st) ∧ Ng[0]? = some a ∧ Vis (defScope st) a ∧
    (a == ("__debug__" : Str)) = false ∧ (a == ("__classdict__" : Str)) = false ∧ (x == ("__debug__" : Str)) = false ∧ (∀ f : Addr, (L2.start Ng [V.ref f])[0]? = some (some (V.ref f))) ∧
    defBody st = [.Try [.Expr (.Call (.Name a p1) [] [] p2) p3] (h₀ :: hds) [] [] p8, .Return (some (.Constant (.str fine) j p4)) p5] ∧ WH G.mg (defScope st) (h₀ :: hds) hs cs
theorem hsel_ok {G : Gc} {tbl : List (Str × Str × Bool)} (xs : XS G tbl) {sg : Scope} {y r : Str} {C : Addr} {H : Hp} {Q : VK} (hy : G.mg y = some (.ref C)) (q : Q (.str r) H) : ∀ {hds : List ExceptHandler} {hs : List (Str × Str)} {cs : List (Value × Str)}, WH G.mg sg hds hs cs → hsel tbl hs y = some r → hval G.K cs (.ref C) H Q := by
  intro hds hs cs h
  induction h with
  | nil => intro z; simp [hsel] at z
  | @cons e r' D np p5 p6 p7 j hds hs cs hme hge hde rest ih =>
    intro z
    unfold hsel at z
    cases w : slk tbl y e with
    | none => rw [w] at z; cases z
    | some b =>
      rw [w] at z
      obtain ⟨C1, D1, h1, h2, h3⟩ := slk_ok xs w
      have e3 : C1 = C := by
        have := h1.symm.trans hy
        cases this; rfl
      have e4 : D1 = D := by
        have := h2.symm.trans hme
        cases this; rfl
      subst e3 e4
      refine ⟨b, h3, fun hb => ?_, fun hb => ?_⟩
      · subst hb
        cases z
        exact q
      · subst hb
        exact ih z
theorem Ext.ofN {G : Gc} {m : List Addr} {H H1 : Hp} (e : ExtN H H1) (t : Tabs G.T H1) : Ext G m H m H1 :=
  ⟨fun b o h _ n => e b o h n, fun b xs h => e b _ h (fun ps z => by cases z), fun b o u h => e b _ h (fun ps z => by cases z), fun b a h => e b _ h (fun ps z => by cases z), fun b ⟨o, h, n⟩ => ⟨o, e b o h n, n⟩, ⟨[], by simp, fun _ z => by cases z⟩, fun _ => t⟩
section
variable {X : Cx} {T : List (Addr × Str)} {W : WX}
theorem e_lam {x fine : Str} {hs : List (Str × Str)} {tbl : List (Str × Str × Bool)} {c P : Addr} {k : Nat} {params : Arguments} {body : Expr} {scope : Scope} {f : ME} {p lpos pos : Pos} (wd : Wd (gOf X T) x hs fine) (xs : XS (gOf X T) tbl)
    (TB : TabB X.base X.mg c P) (hcode : X.env.code = .ref c) (hmT : (P, X.env.qual ++ "<lambda>") ∈ T) (hu : ∀ p ∈ T, p.1 = P → p.2 = X.env.qual ++ "<lambda>") (hr : Room (k + 2) X.A)
    (hbody : ∀ (A : Around) (outer : List PySem.Env) (s : Shared) (H : Hp) (E : XK) (g c' : Addr), Room k (lamCx X A outer s H E scope g c').A → (lamCx X A outer s H E scope g c').A.units + 65 < cLine → Takes (lamCx X A outer s H E scope g c') (fun cls d _ H => E cls d H) →
      PE (lamCx X A outer s H E scope g c') body (tE (gOf (lamCx X A outer s H E scope g c') T) (fun cls d _ H => E cls d H) f))
    (L : LamS X.env.scope scope := by exact lamS_by (by decide +kernel)) (hg : Gl X x := by rfl) (hdef : defaultsOf params X.env = ([], []) := by rfl)
    (hbind : ∀ (q : Str) (cl : List (Str × Addr)) (pm cv ctv : Value), bindArgs (PySem.W.kla_fn "<lambda>" q params body scope cl pm cv ctv) ⟨[], []⟩ = pure [] := by intros; rfl) :
    PE X (.Call (.Name x p) [.Lambda params body scope lpos] [] pos) (tE (gOf X T) W (lamM tbl hs fine f)) := by
  obtain ⟨st, g, fd, a, Ng, h₀, hds, cs, j, p1, p2, p3, p4, p5, p8, F, gm, gb, gs, g0, gv, gd, gcd, gx, gst, gbody, gw⟩ := wd.ex
  obtain ⟨⟨oc, od, kV, doc, pm, an, cdv, ct, osl, rfl, lk, hcg⟩, hk⟩ := F
  refine pe_mono (pe_lamcall (k := k) hg gm hk lk hcg gb gs g0 gv (by rw [gbody]; exact word_gives gw gst) TB hcode hmT hu hr L hdef hbind (t := fun E => tE (gOf X T) (fun cls d _ H => E cls d H) f) (fun A outer s H E g' c' hr' => hbody A outer s H E g' c' hr' ?_ (takes_of rfl rfl rfl rfl)) gx gd gcd) fun σ H Q h => ?_
  · exact Nat.lt_of_le_of_lt (Nat.add_le_add_left (show 65 ≤ 16 * k + 200 by omega) _) (by rw [← Nat.add_assoc]; exact hr'.un)
  · obtain ⟨y, m, ρ, S, p, h⟩ := h
    refine ⟨p.tab, fun H1 eN T1 => ?_⟩
    have E1 : Ext (gOf X T) m H m H1 := Ext.ofN eN T1
    have R1 : RS (gOf X T) (y ++ m) m H1 S := p.sto.stay E1 fun a ha => by
      obtain ⟨o, h1, h2⟩ := p.sto.nt ha
      rw [h1]; exact eN a o h1 h2
    refine ⟨y, m, ρ, S, p.ext E1 R1, ?_⟩
    unfold lamM at h
    cases q : f ρ S with
    | ok u S' =>
      rw [q] at h
      exact fun m' H' E2 R2 v rv => h m' H' (E1.trans E2) R2 _ (.d (.str fine))
    | ex e S' =>
      rw [q] at h
      dsimp only at h
      cases hq : hsel tbl hs e.cls with
      | none => rw [hq] at h; exact h.elim
      | some r =>
        rw [hq] at h
        intro m' H' cls d E2 R2 rx
        obtain ⟨C, e1, e2, _⟩ := rx
        rw [e1]
        exact hsel_ok xs e2 (h m' H' (E1.trans E2) R2 _ (.d (.str r))) gw hq
    | un => rw [q] at h; exact h.elim
end
/-! ### a def with lambdas in it: its code object is known -/
/-- the code object and its table -/
structure Lc (base : Heap) (mg : Str → Option Value) (T : List (Addr × Str)) (c P : Addr) (q : Str) : Prop where
  tb : TabB base mg c P
  mem : (P, q) ∈ T
  one : ∀ p ∈ T, p.1 = P → p.2 = q
section
variable {P : Program} {w : World} {K : PySem.W.Frag} {mg : Str → Option Value} {base : Heap} {T : List (Addr × Str)} {x qual : Str} {st : Stmt} {f : Addr} {N ps : List Str} {k : Nat} {b : MS}
abbrev DerC (P : Program) (w : World) (K : PySem.W.Frag) (mg : Str → Option Value) (base : Heap) (T : List (Addr × Str)) (N : List Str) (qual : Str) (st : Stmt) (f : Addr) (k : Nat) (cdv : Value) (b : MS) : Prop :=
  ∀ (A : Around) (outer : List PySem.Env) (s : Shared) (H : Hp) (E : XK), Room k (bodyX P w K mg base N qual st f cdv A outer s H E).A → (bodyX P w K mg base N qual st f cdv A outer s H E).A.units + 65 < cLine →
    Takes (bodyX P w K mg base N qual st f cdv A outer s H E) (fun cls d _ H => E cls d H) → PassesOwn (model (bodyX P w K mg base N qual st f cdv A outer s H E).prog (bodyX P w K mg base N qual st f cdv A outer s H E).w) (bodyX P w K mg base N qual st f cdv A outer s H E).A (bodyX P w K mg base N qual st f cdv A outer s H E).env (bodyX P w K mg base N qual st f cdv A outer s H E).xe →
    PSs (bodyX P w K mg base N qual st f cdv A outer s H E) (defBody st) (tS (gOf (bodyX P w K mg base N qual st f cdv A outer s H E) T) (fun cls d _ H => E cls d H) b)
theorem obC {oc cdv kV doc pm ct : Value} {od an : Option Addr} {osl : Array (Option Value)} (lk : K.lookup f = some ⟨oc, od, .func (PySem.W.fnOf x qual (defArgs st) (defBody st) (defScope st) .none kV doc pm an cdv ct), osl⟩) (hcd : PySem.W.codeIn K cdv qual = true) (S : FnScope N ps (defScope st)) (D' : DerC P w K mg base T N qual st f k cdv b) :
    OBt P w K mg base T N f (PySem.W.fnOf x qual (defArgs st) (defBody st) (defScope st) .none kV doc pm an cdv ct) k ps b := fun sp hl h =>
  fn_of lk hcd S hl fun A outer s H vs Q E hr hsp =>
    ⟨_, D' A outer s H E hr (Nat.lt_of_le_of_lt (Nat.add_le_add_left (show 65 ≤ 16 * k + 200 by omega) _) (by rw [← Nat.add_assoc]; exact hr.un)) (takes_of rfl rfl rfl rfl) (passes_of rfl), h vs H Q E hsp⟩
end
/-! ### the law's end, with tables -/
theorem walk_mir {l : PySem.W.OpenLaw} {n k : Nat} {q : Program} {loose : List Str} {XP : (Str → Option Value) → Heap → Prop} {YP : World → Heap → Prop} {d : PySem.DefRec} {K : Params → PySem.W.Frag} {CX : World → CXT} {x : Str}
    (hn : l.most = some n) (hn2 : n ≤ sizeLine) (hdf : d.params.defaults = []) (hr : Room k callerA) (hY : ∀ (w : World) (h : Heap), YP w h → (K w.params).In h)
    (F : ∀ (w : World) (mg : Str → Option Value) (fa : Addr) (h : Heap), (K w.params).In h → h.Ns mainGlobals mg → mg d.name = some (.ref fa) → (∃ loose mean mb, PyProof.Rows.Top q loose mean mg mb h) → LawAtS l w (K w.params) (CX w) k n x mg fa h)
    (hCX : ∀ (w : World) (H : Hp) (s : Shared) (e : Value) (s' : Shared), CX w [] H s (fun _ _ _ => False) e s' → False) :
    PySem.W.WalkO q loose XP YP l.row.toRowW d [] (fun f vs => PySem.call f vs) :=
  Att.attach_callB hn hdf fun w s₀ s₁ mg mb fa o pm cd doc a vs ns G Y ho hd hcd hmg hobj hints hlen hbits hg => by
    have KX := hY w _ Y
    obtain ⟨fd, cs, sp, hT, nT, C, hb, hsp, hF⟩ := F w mg fa _ KX G.T.g hmg ⟨_, _, _, G.T⟩
    exact law_callTs KX G.T.g G.T.b G.T.builtins G.T.nolimit hg hT nT C G.T.bmain hobj hints (Nat.le_trans hlen hn2) hr hF hb (fun H hH hS => hsp H a ns hlen hbits hH hS) fun H e s' => hCX w H s₁ e s'
/-- what is promised of law: tables at T's addresses, a script, then True -/
def spLawT (K : PySem.W.Frag) (T : List (Addr × Str)) : Sp := fun vs H Q _ => ∃ (a : Addr) (ns : List Int), vs = [.ref a] ∧ ns.length ≤ 63 ∧ SqL K H a (ns.map V.int) ∧ (∀ p ∈ T, H p.1 = some (.tbl #[])) ∧ ∀ H', Q (.bl true) H'
theorem law_impT {P : Program} {w : World} {K : PySem.W.Frag} {mg : Str → Option Value} {base : Heap} {k : Nat} {f : Addr} {fd : FuncData} {F : List D → R} {T : List (Addr × Str)} (h : FnOk P w K mg base (L2.CX P w) k f fd ["script"] (sp0 ⟨P, w, K, mg, T⟩ 1 F))
    (hF : ∀ ns : List Int, ns.length ≤ 63 → F [.scr ns] = .ok (.bl true) ∧ F [.lst (ns.map D.int)] = .ok (.bl true)) : FnOk P w K mg base (L2.CX P w) k f fd ["script"] (spLawT K T) := h.imp fun vs H Q E ⟨a, ns, e, hl, hS, hT, hQ⟩ => by
  subst e
  have tb : Tabs T H := fun p hp => TabS.nil (hT p hp)
  have fin : ∀ d : D, RV ⟨P, w, K, mg, T⟩ [] H d (.ref a) → F [d] = .ok (.bl true) → sp0 ⟨P, w, K, mg, T⟩ 1 F [.ref a] H Q E := fun d rd hd => by
    refine ⟨rfl, [], [d], fun _ z => (by cases z), tb, .cons rd .nil, ?_⟩
    rw [hd]
    intro H' v _ r
    cases r
    exact hQ H'
  obtain ⟨h1, h2⟩ := hF ns hl
  rcases hS with (hS | hS) | hS
  · exact fin _ (.lst hS (fun z => by cases z) (rvs_ints ns)) h2
  · exact fin _ (.scr (.inl hS)) h1
  · exact fin _ (.scr (.inr hS)) h1
end Mir

/-! Mir20: calls without arguments; calls that look at cells; written dicts; dict(pairs). -/
namespace Mir
open PySem PySem.Spec PyProof.Rows L2 RZ
/-! ### f() -/
def callM0 (F : List D → R) : ME := fun _ S => match F [] with
  | .ok d => .ok (.d d) S
  | _ => .un
/-! ### a call that only looks at cells; its answer is no list, no dict -/
mutual
def flatD : D → Bool
  | .non => true
  | .bl _ => true
  | .int _ => true
  | .str _ => true
  | .tup xs => flatDs xs
  | .lst _ => false
  | .dic _ _ _ => false
  | .scr _ => false
def flatDs : List D → Bool
  | [] => true
  | x :: xs => flatD x && flatDs xs
end
def callV (F : List D → R) (fs : List ME) : ME := fun ρ S => (argsM fs ρ S).bind fun us S1 => match rds S1 us with
  | some ds => match F ds with
    | .ok d => if flatD d = true then .ok (.d d) S1 else .un
    | .ex e => if e.fs.isNone = true then .ex e S1 else .un
    | .un => .un
  | none => .un
section
variable {G : Gc} {e e' : List Addr} {H : Hp}
mutual
theorem RV.flat : ∀ {d : D} {v : V}, RV G e H d v → flatD d = true → RV G e' H d v
  | _, _, .non, _ => .non
  | _, _, .bl b, _ => .bl b
  | _, _, .int i, _ => .int i
  | _, _, .str x, _ => .str x
  | _, _, .tup h r, q => .tup h (RVs.flats r (by simpa [flatD] using q))
  | _, _, .lst _ _ _, q => by simp [flatD] at q
  | _, _, .scr _, q => by simp [flatD] at q
  | _, _, .dic _ _ _ _, q => by simp [flatD] at q
theorem RVs.flats : ∀ {ds : List D} {vs : List V}, RVs G e H ds vs → flatDs ds = true → RVs G e' H ds vs
  | _, _, .nil, _ => .nil
  | _, _, .cons r t, q => by
    have h := Bool.and_eq_true_iff.mp (show (flatD _ && flatDs _) = true from q)
    exact .cons (RV.flat r h.1) (RVs.flats t h.2)
end
/-- what is read off cells, where cells are looked at as data: apart from nothing -/
theorem RT.un {d : D} {v : V} (r : RT G e H d v) : RV G [] H d v := by
  have k : Keep G e H [] H := keep_sub fun a z => by cases z
  cases r with
  | of r => exact r.keep k
  | lst h r => exact .lst h (fun z => by cases z) (r.keep k)
  | dic h q r => exact .dic h (fun z => by cases z) q (r.keep k)
theorem RTs.un : ∀ {ds : List D} {vs : List V}, RTs G e H ds vs → RVs G [] H ds vs
  | _, _, .nil => .nil
  | _, _, .cons r t => .cons r.un (RTs.un t)
end
section
variable {X : Cx} {T : List (Addr × Str)} {W : WX} {k n : Nat} {x : Str} {e : Expr} {es : List Expr} {fs : List ME} {pos px : Pos}
theorem e_call0 {F : List D → R} (h : Kn (gOf X T) X.base k x (sp0 (gOf X T) 0 F)) (hr : Room k X.A) (tk : Takes X W) (hg : Gl X x := by rfl) (hdb : (x == ("__debug__" : Str)) = false := by decide) : PE X (.Call (.Name x px) [] [] pos) (tE (gOf X T) W (callM0 F)) := by
  obtain ⟨f, fd, ps, h1, h2, h3, h4⟩ := h.ex
  refine pe_mono (pe_call0 (E := fun _ _ _ => False) h1 hr hg h2 h3 h4 .nil (passes_call tk fun _ _ _ _ z => z.elim) hdb) fun σ H Q h => ?_
  obtain ⟨y, m, ρ, S, q, h⟩ := h
  refine ⟨rfl, y ++ m, [], q.trkN, q.tab, .nil, ?_⟩
  unfold callM0 at h
  unfold PR
  split at h
  · rename_i d hd
    rw [hd]
    exact fun H' v E2 rv => h m H' E2.of_nil (q.sto.stay0 E2) v (.d rv)
  · exact h.elim
theorem e_callV {F : List D → R} (h : Kn (gOf X T) X.base k x (sp0 (gOf X T) n F)) (hr : Room k X.A) (tk : Takes X W) (hn : Nat.beq fs.length n = true := by rfl) (ha : PA X (e :: es) (tA (gOf X T) W (argsM fs))) (hg : Gl X x := by rfl)
    (hdb : (x == ("__debug__" : Str)) = false := by decide) (he : starEach (e :: es) X.env = (false, eval e X.env) :: starEach es X.env := by rfl) (hpl : (backTo pos (starEach es X.env)).any (·.1) = false := by rfl) :
    PE X (.Call (.Name x px) (e :: es) [] pos) (tE (gOf X T) W (callV F fs)) := by
  obtain ⟨f, fd, ps, h1, h2, h3, h4⟩ := h.ex
  refine pe_mono (pe_callS h1 hr hg h2 h3 h4 (fun σ => passAt tk σ) ha hdb he hpl) fun σ H Q h => ?_
  obtain ⟨y, m, ρ, S, q, h⟩ := h
  cases q1 : argsM fs ρ S with
  | un => simp only [callV, q1, O.bind] at h; exact h.elim
  | ex ee S' =>
    refine ⟨y, m, ρ, S, q, ?_⟩
    simp only [callV, q1, O.bind] at h ⊢
    exact h
  | ok us S' =>
    refine ⟨y, m, ρ, S, q, ?_⟩
    rw [q1]
    intro m1 H1 E1 R1 vs rvs
    have p1 := q.ext E1 R1
    simp only [callV, q1, O.bind] at h
    refine ⟨by rw [← RUs.length rvs, argsM_len q1]; exact Nat.eq_of_beq_eq_true hn, ?_⟩
    split at h
    · rename_i ds hds
      refine ⟨[], ds, fun _ z => (by cases z), p1.tab, (RUs.rts R1 rvs hds).un, ?_⟩
      unfold PR
      split
      · rename_i d hd
        rw [hd] at h
        dsimp only at h
        split at h
        · rename_i hf
          exact fun H' v E2 rv => h m1 H' (E1.trans E2.of_nil) (R1.stay0 E2) v (.d (rv.flat hf))
        · exact h.elim
      · rename_i ee hd
        rw [hd] at h
        dsimp only at h
        split at h
        · rename_i hf
          refine fun H' cls d E2 rx => h m1 H' cls d (E1.trans E2.of_nil) (R1.stay0 E2) ?_
          obtain ⟨C, c1, c2, c3⟩ := rx
          refine ⟨C, c1, c2, ?_⟩
          have en : ee.fs = none := by simpa using hf
          rw [en]
          trivial
        · exact h.elim
      · rename_i hd
        rw [hd] at h
        exact h
    · exact h.elim

/-! ### {k: v, ..} with written texts as keys -/
def dicM (ks : List Str) (fs : List ME) : ME := fun ρ S => match argsM fs ρ S with
  | .ok us S' => match pures us with
    | some ds => .ok (.d (.dic false (ks.map .text) ds)) S'
    | none => .un
  | _ => .un
def trsOf (G : Gc) (W : WX) : List Str → List ME → List (TE × TE)
  | k :: ks, f :: fs => (tC (.str k), tE G W f) :: trsOf G W ks fs
  | _, _ => []
abbrev MPs (X : Cx) (T : List (Addr × Str)) (W : WX) (pos : Pos) (keys : List (Option Expr)) (values : List Expr) (ks : List Str) (fs : List ME) : Prop := PPs X pos keys values (trsOf (gOf X T) W ks fs)
theorem q_nil : MPs X T W pos [] [] [] [] := pps_nil
theorem q_cons {k : Str} {j : Nat} {kp : Pos} {v : Expr} {f : ME} {keys : List (Option Expr)} {values : List Expr} {ks : List Str} {fs : List ME} (hv : PE X v (tE (gOf X T) W f)) (hr : MPs X T W pos keys values ks fs) : MPs X T W pos (some (.Constant (.str k) j kp) :: keys) (v :: values) (k :: ks) (f :: fs) := pps_cons pe_str hv hr
theorem disp_args {σ : St} {y : List Addr} {ρ : Env} : ∀ {fs : List ME} {ks : List Str} {m : List Addr} {H : Hp} {S : Sto} {Qp : List (V × V) → Hp → Prop}, ks.length = fs.length → Rp (gOf X T) y m H ρ S σ → Post (gOf X T) W y m σ H (argsM fs ρ S) (fun us _ m' H' => ∀ vs, RUs (gOf X T) (y ++ m') m' H' us vs → Qp ((ks.map V.str).zip vs) H') →
    tPairs (trsOf (gOf X T) W ks fs) σ H Qp
  | [], [], m, H, S, Qp, _, p, h => h m H Ext.refl p.sto [] .nil
  | f :: fs, k :: ks, m, H, S, Qp, hl, p, h => by
    refine ⟨y, m, ρ, S, p, (Post.bind h).mono fun u S1 m1 H1 E1 R1 ⟨_, _, h1⟩ v rv => ?_⟩
    have p1 := p.ext E1 R1
    exact disp_args (Qp := fun ps H' => Qp ((.str k, v) :: ps) H') (ks := ks) (by simpa using hl) p1 ((Post.bind h1).mono fun us S2 m2 H2 E2 R2 ⟨_, _, h3⟩ vs rvs => h3 m2 H2 Ext.refl R2 _ (.cons (rv.ext E2) rvs))
  | [], _ :: _, _, _, _, _, hl, _, _ => by simp at hl
  | _ :: _, [], _, _, _, _, hl, _, _ => by simp at hl
theorem putK_new {kvs : List (Key × V)} {k : Key} {v : V} (h : k ∉ kvs.map (·.1)) : putK kvs k v = kvs ++ [(k, v)] := by
  unfold putK
  rw [if_neg]
  intro z
  obtain ⟨p, hp, e⟩ := List.any_eq_true.mp z
  exact h (List.mem_map.mpr ⟨p, hp, of_decide_eq_true e⟩)
theorem mergeK_nodup : ∀ (more kvs : List (Key × V)), ((kvs ++ more).map (·.1)).Nodup → mergeK kvs more = kvs ++ more
  | [], kvs, _ => by simp [mergeK]
  | (k, v) :: more, kvs, h => by
    have h1 : k ∉ kvs.map (·.1) := fun z => by
      rw [List.map_append] at h
      exact (List.nodup_append.mp h).2.2 k z k (by simp) rfl
    show mergeK (putK kvs k v) more = _
    rw [putK_new h1, mergeK_nodup more (kvs ++ [(k, v)]) (by simpa using h)]
    simp
theorem Ext.growO {G : Gc} {m m' : List Addr} {H0 H' : Hp} {p : Addr} {o o' : HO} (E : Ext G m H0 m' H') (h0 : H0 p = none) (h : H' p = some o) (h1 : ∀ ps, o ≠ .tbl ps) (h2 : ∀ c q, p = c → o ≠ LamX.CodeO c q) (h3 : ∀ ps, o' ≠ .tbl ps) : Ext G m H0 m' (upd H' p o') := by
  have ne : ∀ {b : Addr} {u : HO}, H0 b = some u → b ≠ p := fun {b u} q z => by rw [z, h0] at q; cases q
  refine ⟨fun b u q n t => by rw [upd_ne (ne q)]; exact E.keep b u q n t, fun b xs q => by rw [upd_ne (ne q)]; exact E.tups b xs q, fun b u w q => by rw [upd_ne (ne q)]; exact E.frzs b u w q,
    fun b a q => by rw [upd_ne (ne q)]; exact E.owns b a q, fun b q => ?_, E.pre, fun t pp hp => ?_⟩
  · obtain ⟨u, q1, q2⟩ := E.live b q
    by_cases z : b = p
    · rw [z]; exact ⟨_, upd_same, h3⟩
    · exact ⟨u, by rw [upd_ne z]; exact q1, q2⟩
  · obtain ⟨ps, g1, g2, g3⟩ := E.tab t pp hp
    refine ⟨ps, by rw [upd_ne (fun z => h1 ps (by rw [z, h] at g1; exact Option.some.inj g1))]; exact g1, g2, fun pos cv hc => ?_⟩
    obtain ⟨c, g4, g5⟩ := g3 pos cv hc
    exact ⟨c, g4, by rw [upd_ne (fun z => h2 c pp.2 z.symm (by rw [z, h] at g5; rw [z]; exact Option.some.inj g5))]; exact g5⟩
theorem zip_keys : ∀ {ks : List Str} {vs : List V}, vs.length = ks.length → (ks.map V.str).zip vs = ((ks.map Sum.inr).zip vs).map (fun kv => ((kV kv.1 : V), kv.2)) ∧ (((ks.map Sum.inr : List Key).zip vs).map (·.1)) = ks.map Sum.inr
  | [], [], _ => ⟨rfl, rfl⟩
  | k :: ks, v :: vs, h => by
    obtain ⟨h1, h2⟩ := zip_keys (ks := ks) (vs := vs) (by simpa using h)
    exact ⟨by simp [h1, kV], by simp [h2]⟩
  | [], _ :: _, h => by simp at h
  | _ :: _, [], h => by simp at h
theorem e_dic {keys : List (Option Expr)} {values : List Expr} {ks : List Str} {fs : List ME} (h : MPs X T W pos keys values ks fs) (hk : ks.Nodup := by decide +kernel) (hl : ks.length = fs.length := by rfl) (h15 : Nat.ble ks.length 15 = true := by rfl)
    (hall : keys.all (·.isSome) = true := by rfl) (hlen : keys.length = values.length := by rfl) (h0 : keys ≠ [] := by simp) (hk15 : keys.length ≤ 15 := by decide) : PE X (.Dict keys values pos) (tE (gOf X T) W (dicM ks fs)) := pe_mono (pe_disp h hall hlen h0 hk15) fun σ H Q h => by
  obtain ⟨y, m, ρ, S, q, h⟩ := h
  intro p np
  have hide : Keep (gOf X T) (y ++ m) H (p :: (y ++ m)) (upd H p (.dK [])) := Keep.hide np
  have p0 : Rp (gOf X T) (p :: y) m (upd H p (.dK [])) ρ S σ := ⟨q.env.keep hide, q.sto.keep hide (fun b hb => List.mem_cons_of_mem _ (List.mem_append_right _ hb)) (fun a ha => by
      obtain ⟨u, z⟩ := q.sto.live ha
      rw [upd_ne (ne_of_none z np)]) (fun b c z => by rw [upd_ne (ne_of_none z np)]; exact z), fun b hb => by
        rcases List.mem_cons.mp hb with z | z
        · rw [z]; exact ⟨_, upd_same, fun ps z => by cases z⟩
        · obtain ⟨u, w, wn⟩ := q.ex b z
          exact ⟨u, by rw [upd_ne (ne_of_none w np)]; exact w, wn⟩, q.tab.ext fun b u z => by rw [upd_ne (ne_of_none z np)]; exact z⟩
  have nm : p ∉ m := fun z => by
    obtain ⟨u, w⟩ := q.sto.live z
    rw [np] at w; cases w
  have ny : p ∉ y := fun z => by
    obtain ⟨u, w, _⟩ := q.ex p z
    rw [np] at w; cases w
  have E0 : Ext (gOf X T) m H m (upd H p (.dK [])) := Ext.new np
  refine disp_args hl p0 ?_
  unfold dicM at h
  cases qa : argsM fs ρ S with
  | un => rw [qa] at h; exact h.elim
  | ex ee S' => rw [qa] at h; exact h.elim
  | ok us S' =>
    rw [qa] at h
    intro m1 H1 E1 R1 vs rvs
    dsimp only at h
    split at h
    · rename_i ds hd
      have hr := RUs.pure rvs hd
      have hv : vs.length = ks.length := by rw [← RUs.length rvs, argsM_len qa, hl]
      have hp1 : H1 p = some (.dK []) := E1.keep _ _ upd_same nm (fun ps z => by cases z)
      have nm1 : p ∉ m1 := fun z => by
        obtain ⟨nw, e1, f1⟩ := E1.pre
        rw [e1] at z
        rcases List.mem_append.mp z with z | z
        · exact nm z
        · exact f1 p z ⟨_, upd_same, fun ps z => by cases z⟩
      have nk : ((([] : List (Key × V)) ++ (ks.map Sum.inr : List Key).zip vs).map (·.1)).Nodup := by
        rw [List.nil_append, (zip_keys hv).2]
        exact List.Pairwise.map _ (fun a b hab z => hab (Sum.inr.inj z)) hk
      refine ⟨hp1, (ks.map Sum.inr).zip vs, (zip_keys hv).1, ?_, ?_⟩
      · rw [List.length_zip, List.length_map, hv, Nat.min_self]
        exact Nat.le_of_ble_eq_true h15
      · rw [mergeK_nodup _ _ nk, List.nil_append]
        have E2 : Ext (gOf X T) m H m1 (upd H1 p (.dK ((ks.map Sum.inr).zip vs))) := Ext.growO (E0.trans E1) np hp1 (fun ps z => by cases z) (fun c q z => dK_code) (fun ps z => by cases z)
        have kg : Keep (gOf X T) (p :: y ++ m1) H1 (p :: y ++ m1) (upd H1 p (.dK ((ks.map Sum.inr).zip vs))) := Keep.upd1 hp1 (fun _ z => by cases z) (fun _ _ z => by cases z) List.mem_cons_self
        have ks2 : Keep (gOf X T) (p :: y ++ m1) (upd H1 p (.dK ((ks.map Sum.inr).zip vs))) (y ++ m1) (upd H1 p (.dK ((ks.map Sum.inr).zip vs))) := keep_sub fun a ha => List.mem_cons_of_mem _ ha
        have R2 := (R1.keep kg (fun b hb => List.mem_append_right _ hb) (fun a ha => upd_ne fun z => nm1 (z ▸ ha)) (fun b c q => by
            rw [upd_ne (fun z => by rw [z, hp1] at q; cases q)]; exact q)).keep ks2 (fun b hb => List.mem_append_right _ hb) (fun _ _ => rfl) fun _ _ q => q
        refine h m1 _ E2 R2 _ (.d ?_)
        have rd := RD.k (G := gOf X T) (H := upd H1 p (.dK ((ks.map Sum.inr).zip vs))) (a := p) (ks.map Sum.inr) vs (by rw [List.length_map, hv])
        have ek : (ks.map (Sum.inr : Str → Key)).map kN = ks.map .text := by simp [kN, Function.comp_def]
        rw [ek] at rd
        refine .dic upd_same (fun z => ?_) rd ((hr.keep kg).keep ks2)
        rcases List.mem_append.mp z with z | z
        · exact ny z
        · exact nm1 z
    · exact h.elim
end
end Mir

/-! Mir21: comprehensions over two: the second over a tuple of the module. -/
namespace Mir
open PySem PySem.Spec PyProof.Rows L2 RZ
def lc2L (tg1 : Tg) (t1 : MT) (es : List D) (tg2 : Tg) (t2 : MT) (f : ME) (vs1 : List Nat) (ρ0 : Env) : List D → Sto → O (List D)
  | [], S => .ok [] S
  | d :: ds, S => match setT tg1 d ρ0 with
    | none => .un
    | some ρ => match t1 ρ S with
      | .ok true S1 => match lcL tg2 t2 f (wipeE ρ vs1) es S1 with
        | .ok ys S2 => match lc2L tg1 t1 es tg2 t2 f vs1 ρ0 ds S2 with
          | .ok zs S3 => .ok (ys ++ zs) S3
          | _ => .un
        | _ => .un
      | .ok false S1 => lc2L tg1 t1 es tg2 t2 f vs1 ρ0 ds S1
      | _ => .un
def lc2M (it : MI) (tg1 : Tg) (t1 : MT) (es : List D) (tg2 : Tg) (t2 : MT) (f : ME) (own vs1 : List Nat) : ME := fun ρ S => (it ρ S).bind fun ds S1 =>
  if ds.length ≤ 1000 ∧ es.length ≤ 1000 then match lc2L tg1 t1 es tg2 t2 f vs1 (wipeE ρ own) ds S1 with
    | .ok ys S2 => .ok (.d (.lst ys)) S2
    | _ => .un
  else .un
theorem lcL_len {tg : Tg} {t : MT} {f : ME} {ρ0 : Env} : ∀ {ds : List D} {S S' : Sto} {ys : List D}, lcL tg t f ρ0 ds S = .ok ys S' → ys.length ≤ ds.length
  | [], _, _, _, h => by simp [lcL] at h; simp [← h.1]
  | d :: ds, S, S', ys, h => by
    unfold lcL at h
    split at h
    · cases h
    · split at h
      · split at h
        · split at h
          · rename_i q
            cases h
            have := lcL_len q
            simp; omega
          · cases h
        · cases h
      · have := lcL_len h
        simp; omega
      · cases h
section
variable {X : Cx} {T : List (Addr × Str)} {W : WX}
/-- the second walk: over the tuple at a, wherever the heap stands -/
theorem lc_inner {es : List D} {tgt : Tg} {t : MT} {f : ME} {vs1 : List Nat} (ho : ∀ i ∈ tgt.ix, i ∈ vs1) {a D₀ : Addr} (hes : ∀ e H, RV (gOf X T) e H (.tup es) (.ref a)) {x m1 : List Addr} {H1 : Hp} (hD : H1 D₀ = none) (hT1 : LamX.Tabs T H1) {m : List Addr} {H : Hp} {ρ ρO : Env} {S Sf : Sto} {σ σO : L2.St} {acc ys : List D} {vacc : List V} {n0 : Nat} {Nx : Hp → Prop}
    (E : Ext (gOf X T) m1 H1 m H) (p : Rp (gOf X T) (D₀ :: x) m H ρ S σ) (oe : RE (gOf X T) (D₀ :: x ++ m) m H ρO σO) (hd : H D₀ = some (.lst vacc)) (r : RVs (gOf X T) (D₀ :: x ++ m) H acc vacc) (hn : vacc.length ≤ n0) (hsz : n0 + es.length < sizeLine) (nD : D₀ ∉ m)
    (hL : lcL tgt t f (wipeE ρ vs1) es S = .ok ys Sf)
    (fin : ∀ m' H' vacc', Ext (gOf X T) m1 H1 m' H' → RS (gOf X T) (D₀ :: x ++ m') m' H' Sf → (∀ b ∈ D₀ :: x, Nt H' b) → LamX.Tabs T H' → RE (gOf X T) (D₀ :: x ++ m') m' H' ρO σO → H' D₀ = some (.lst vacc') → RVs (gOf X T) (D₀ :: x ++ m') H' (acc ++ ys) vacc' → vacc'.length ≤ n0 + es.length → D₀ ∉ m' → Nx H') :
    ∃ W1 : Nat → Nat → Hp → Prop, (∃ k, W1 0 k H) ∧ ∀ j k H2, W1 j k H2 → ((Itt X.K a).stop j H2 ∧ Nx H2) ∨ ((Itt X.K a).go j H2 ∧ ∃ Nx1 : Hp → Prop, (∀ H', Nx1 H' → ∃ k', k' < k ∧ W1 (j + 1) k' H') ∧ ∀ v H3, (Itt X.K a).yld j H2 v H3 → gT X.K tgt v (L2.wipe σ vs1) H3 fun σ3 H5 => L2.wipe σ3 vs1 = L2.wipe σ vs1 ∧ tT (gOf X T) WF t σ3 H5 fun b H6 =>
      if b = true then tE (gOf X T) WF f σ3 H6 fun y H7 => ∃ acc, H7 D₀ = some (.lst acc) ∧ acc.length < sizeLine ∧ Nx1 (upd H7 D₀ (.lst (acc ++ [y]))) else Nx1 H6) := by
  refine ⟨fun i k H2 => ∃ m2 S2 acc2 vacc2 rest, k = es.length - i ∧ i ≤ es.length ∧ Ext (gOf X T) m1 H1 m2 H2 ∧ Rp (gOf X T) (D₀ :: x) m2 H2 (wipeE ρ vs1) S2 (L2.wipe σ vs1) ∧ RE (gOf X T) (D₀ :: x ++ m2) m2 H2 ρO σO ∧ H2 D₀ = some (.lst vacc2) ∧
      RVs (gOf X T) (D₀ :: x ++ m2) H2 acc2 vacc2 ∧ vacc2.length ≤ n0 + i ∧ lcL tgt t f (wipeE ρ vs1) (es.drop i) S2 = .ok rest Sf ∧ acc ++ ys = acc2 ++ rest ∧ D₀ ∉ m2,
    ⟨es.length, m, S, acc, vacc, ys, by simp, Nat.zero_le _, E, ⟨RE.wipeS vs1 p.env, p.sto, p.ex, p.tab⟩, oe, hd, r, by omega, by rw [List.drop_zero]; exact hL, rfl, nD⟩, ?_⟩
  rintro i k H2 ⟨m2, S2, acc2, vacc2, rest, rfl, hi, E2, p2, oe2, hd2, r2, hv, hl, hy, nD2⟩
  obtain ⟨xs, hq, hxs⟩ : ∃ xs, SqT X.K H2 a xs ∧ RVs (gOf X T) (D₀ :: x ++ m2) H2 es xs := by
    cases hes (D₀ :: x ++ m2) H2 with
    | tup h1 h2 => exact ⟨_, h1, h2⟩
  have hY := yl_tup (x := D₀ :: x) (m := m2) hq hxs (D₀ :: x) m2 H2 (fun b hb => .inl hb) Ext.refl p2.trk i
  by_cases hlt : i < es.length
  · obtain ⟨hgo, hyl⟩ := hY.1 es[i] (List.getElem?_eq_getElem hlt)
    rw [List.drop_eq_getElem_cons hlt] at hl
    simp only [lcL] at hl
    refine .inr ⟨hgo, fun H3 => ∃ m3 S3 acc3 vacc3 rest, Ext (gOf X T) m1 H1 m3 H3 ∧ Rp (gOf X T) (D₀ :: x) m3 H3 (wipeE ρ vs1) S3 (L2.wipe σ vs1) ∧ RE (gOf X T) (D₀ :: x ++ m3) m3 H3 ρO σO ∧ H3 D₀ = some (.lst vacc3) ∧
      RVs (gOf X T) (D₀ :: x ++ m3) H3 acc3 vacc3 ∧ vacc3.length ≤ n0 + (i + 1) ∧ lcL tgt t f (wipeE ρ vs1) (es.drop (i + 1)) S3 = .ok rest Sf ∧ acc ++ ys = acc3 ++ rest ∧ D₀ ∉ m3,
      fun H3 ⟨m3, S3, acc3, vacc3, rest, a1, a2, a3, a4, a5, a6, a7, a8, a9⟩ => ⟨es.length - (i + 1), by omega, m3, S3, acc3, vacc3, rest, rfl, hlt, a1, a2, a3, a4, a5, a6, a7, a8, a9⟩, fun v H3 yv => ?_⟩
    obtain ⟨E3, k3, r3⟩ := hyl v H3 yv
    have R3 : RS (gOf X T) (D₀ :: x ++ m2) m2 H3 S2 := p2.sto.stay E3 fun a ha => k3 a ha (by obtain ⟨o, q⟩ := p2.sto.live ha; rw [q]; simp)
    have p3 := p2.ext E3 R3
    cases hs : setT tgt es[i] (wipeE ρ vs1) with
    | none => rw [hs] at hl; cases hl
    | some ρ' =>
      rw [hs] at hl
      dsimp only at hl
      refine tg_ok r3 p3.env hs ho fun σ' re' hw => ⟨by rw [hw, wipe_idem], ?_⟩
      have q3 : Rp (gOf X T) (D₀ :: x) m2 H3 ρ' S2 σ' := ⟨re', R3, p3.ex, p3.tab⟩
      have nD' : ∀ {m m' : List Addr} {H H' : Hp}, Ext (gOf X T) m H m' H' → D₀ ∉ m → Nt H D₀ → D₀ ∉ m' := fun E n q z => by
        obtain ⟨nw, e1, f1⟩ := E.pre
        rw [e1] at z
        rcases List.mem_append.mp z with z | z
        · exact n z
        · exact f1 _ z q
      have d3 : H3 D₀ = some (.lst vacc2) := E3.keep _ _ hd2 nD2 (fun ps z => by cases z)
      refine ⟨D₀ :: x, m2, ρ', S2, q3, ?_⟩
      cases ht : t ρ' S2 with
      | un => rw [ht] at hl; cases hl
      | ex ee S' => rw [ht] at hl; cases hl
      | ok b S3 =>
        rw [ht] at hl
        intro m4 H4 E4 R4
        have q4 := q3.ext E4 R4
        have d4 : H4 D₀ = some (.lst vacc2) := E4.keep _ _ d3 nD2 (fun ps z => by cases z)
        have n4 := nD' E4 nD2 ⟨_, d3, fun ps z => by cases z⟩
        cases b with
        | false =>
          exact iteF ⟨m4, S3, acc2, vacc2, rest, (E2.trans E3).trans E4, ⟨(p3.ext E4 R4).env, R4, (p3.ext E4 R4).ex, (p3.ext E4 R4).tab⟩, oe2.ext (x := D₀ :: x) (E3.trans E4), d4, r2.keep ((E3.trans E4).kp), by omega, hl, hy, n4⟩
        | true =>
          refine iteT ⟨D₀ :: x, m4, ρ', S3, q4, ?_⟩
          dsimp only at hl
          cases hf : f ρ' S3 with
          | un => rw [hf] at hl; cases hl
          | ex ee S' => rw [hf] at hl; cases hl
          | ok u S4 =>
            rw [hf] at hl
            cases u with
            | c j => cases hl
            | t j => cases hl
            | d y =>
              dsimp only at hl
              cases hr : lcL tgt t f (wipeE ρ vs1) (es.drop (i + 1)) S4 with
              | un => rw [hr] at hl; cases hl
              | ex ee S' => rw [hr] at hl; cases hl
              | ok rest' S5 =>
                rw [hr] at hl
                cases hl
                intro m5 H5 E5 R5 w rw'
                have d5 : H5 D₀ = some (.lst vacc2) := E5.keep _ _ d4 n4 (fun ps z => by cases z)
                have n5 := nD' E5 n4 ⟨_, d4, fun ps z => by cases z⟩
                have E35 := (E3.trans E4).trans E5
                have p5 := p2.ext E35 R5
                have oe5 := oe2.ext (x := D₀ :: x) E35
                have kg : Keep (gOf X T) (D₀ :: x ++ m5) H5 (D₀ :: x ++ m5) (upd H5 D₀ (.lst (vacc2 ++ [w]))) := Keep.grow d5 List.mem_cons_self
                refine ⟨vacc2, d5, by omega, m5, S4, acc2 ++ [y], vacc2 ++ [w], rest', (E2.trans E35).grow hD d5, ⟨p5.env.keep kg, R5.keep kg (fun b hb => List.mem_append_right _ hb) (fun a ha => upd_ne fun z => n5 (z ▸ ha)) (fun b y q => by
                    rw [upd_ne (fun z => by rw [z, d5] at q; cases q)]; exact q), fun b hb => ?_, ?_⟩, oe5.keep kg, upd_same, ?_, by simp; omega, hr, by rw [hy]; simp, n5⟩
                · by_cases z : b = D₀
                  · rw [z]; exact ⟨_, upd_same, fun ps z => by cases z⟩
                  · obtain ⟨o, q, qn⟩ := p5.ex b hb
                    exact ⟨o, by rw [upd_ne z]; exact q, qn⟩
                · exact ((E2.trans E35).grow hD d5).tab hT1
                · refine (RVs.append (r2.keep E35.kp) (.cons ?_ .nil)).keep kg
                  cases rw' with
                  | d r => exact r
  · have e : i = es.length := by omega
    rw [e, List.drop_length] at hl
    cases hl
    rw [List.append_nil] at hy
    refine .inl ⟨hY.2 (by omega), fin m2 H2 vacc2 E2 p2.sto p2.ex p2.tab oe2 hd2 (by rw [hy]; exact r2) (by omega) nD2⟩
theorem lc2_red {fi : MI} {t1 t2 : MT} {f : ME} {tg1 tg2 : Tg} {own vs1 : List Nat} {es : List D} {a : Addr} (hes : ∀ e H, RV (gOf X T) e H (.tup es) (.ref a)) (ho : ∀ i ∈ tg1.ix, i ∈ own) (ho2 : ∀ i ∈ tg2.ix, i ∈ vs1) {σ : L2.St} {H : Hp} {Q : VK} (h : tE (gOf X T) W (lc2M fi tg1 t1 es tg2 t2 f own vs1) σ H Q) :
    tLc2 (tI (gOf X T) W fi) (gT X.K tg1) (tT (gOf X T) WF t1) (iTup X.K (tC (.ref a))) (gT X.K tg2) (tT (gOf X T) WF t2) (tE (gOf X T) WF f) own vs1 σ H Q := by
  obtain ⟨x, m, ρ, S, p, h⟩ := h
  refine ⟨x, m, ρ, S, p, (Post.bind h).mono fun ds S1 m1 H1 E1 R1 ⟨_, _, h1⟩ J hJ => fun D₀ hD => ?_⟩
  have p1 := p.ext E1 R1
  split at h1
  case isFalse => exact h1.elim
  case isTrue hbig =>
  cases hL : lc2L tg1 t1 es tg2 t2 f vs1 (wipeE ρ own) ds S1 with
  | un => rw [hL] at h1; exact h1.elim
  | ex ee S' => rw [hL] at h1; exact h1.elim
  | ok ys Sf =>
    rw [hL] at h1
    refine ⟨fun i k H2 => ∃ m2 S2 acc vacc rest, k = ds.length - i ∧ i ≤ ds.length ∧ Ext (gOf X T) m1 H1 m2 H2 ∧ Rp (gOf X T) (D₀ :: x) m2 H2 (wipeE ρ own) S2 (L2.wipe σ own) ∧ H2 D₀ = some (.lst vacc) ∧
      RVs (gOf X T) (D₀ :: x ++ m2) H2 acc vacc ∧ vacc.length ≤ 1000 * i ∧ lc2L tg1 t1 es tg2 t2 f vs1 (wipeE ρ own) (ds.drop i) S2 = .ok rest Sf ∧ ys = acc ++ rest ∧ D₀ ∉ m2,
      ⟨ds.length, m1, S1, [], [], ys, by simp, Nat.zero_le _, Ext.new hD, ⟨(RE.wipeS own p1.env).keep (Keep.hide hD), R1.keep (Keep.hide hD) (fun b hb => List.mem_cons_of_mem _ (List.mem_append_right _ hb)) (fun a ha => by
          obtain ⟨u, q⟩ := R1.live ha
          rw [upd_ne (ne_of_none q hD)]) (fun b y q => by rw [upd_ne (ne_of_none q hD)]; exact q), fun b hb => ?_, p1.tab.ext fun b u q => by rw [upd_ne (ne_of_none q hD)]; exact q⟩, upd_same, .nil, Nat.zero_le _, by rw [List.drop_zero]; exact hL, rfl, fun z => by
          obtain ⟨u, q⟩ := R1.live z
          rw [hD] at q; cases q⟩, ?_⟩
    · rcases List.mem_cons.mp hb with z | z
      · rw [z]; exact ⟨_, upd_same, fun ps z => by cases z⟩
      · obtain ⟨u, q, qn⟩ := p1.ex b z
        exact ⟨u, by rw [upd_ne (ne_of_none q hD)]; exact q, qn⟩
    rintro i k H2 ⟨m2, S2, acc, vacc, rest, rfl, hi, E2, p2, hd2, r2, hv, hl, hy, nD⟩
    have hY := hJ (D₀ :: x) m2 H2 (fun b hb => by
      rcases List.mem_cons.mp hb with z | z
      · exact .inr (by rw [z]; exact hD)
      · exact .inl z) E2 p2.trk i
    by_cases hlt : i < ds.length
    · obtain ⟨hgo, hyl⟩ := hY.1 ds[i] (List.getElem?_eq_getElem hlt)
      rw [List.drop_eq_getElem_cons hlt] at hl
      simp only [lc2L] at hl
      refine .inr ⟨hgo, fun H3 => ∃ m3 S3 acc vacc rest, Ext (gOf X T) m1 H1 m3 H3 ∧ Rp (gOf X T) (D₀ :: x) m3 H3 (wipeE ρ own) S3 (L2.wipe σ own) ∧ H3 D₀ = some (.lst vacc) ∧
        RVs (gOf X T) (D₀ :: x ++ m3) H3 acc vacc ∧ vacc.length ≤ 1000 * (i + 1) ∧ lc2L tg1 t1 es tg2 t2 f vs1 (wipeE ρ own) (ds.drop (i + 1)) S3 = .ok rest Sf ∧ ys = acc ++ rest ∧ D₀ ∉ m3,
        fun H3 ⟨m3, S3, acc, vacc, rest, a1, a2, a3, a4, a5, a6, a7, a8⟩ => ⟨ds.length - (i + 1), by omega, m3, S3, acc, vacc, rest, rfl, hlt, a1, a2, a3, a4, a5, a6, a7, a8⟩, fun v H3 yv => ?_⟩
      obtain ⟨E3, k3, r3⟩ := hyl v H3 yv
      have R3 : RS (gOf X T) (D₀ :: x ++ m2) m2 H3 S2 := p2.sto.stay E3 fun a ha => k3 a ha (by obtain ⟨o, q⟩ := p2.sto.live ha; rw [q]; simp)
      have p3 := p2.ext E3 R3
      cases hs : setT tg1 ds[i] (wipeE ρ own) with
      | none => rw [hs] at hl; cases hl
      | some ρ' =>
        rw [hs] at hl
        dsimp only at hl
        refine tg_ok r3 p3.env hs ho fun σ' re' hw => ⟨by rw [hw, wipe_idem], ?_⟩
        have q3 : Rp (gOf X T) (D₀ :: x) m2 H3 ρ' S2 σ' := ⟨re', R3, p3.ex, p3.tab⟩
        have nD' : ∀ {m m' : List Addr} {H H' : Hp}, Ext (gOf X T) m H m' H' → D₀ ∉ m → Nt H D₀ → D₀ ∉ m' := fun E n q z => by
          obtain ⟨nw, e1, f1⟩ := E.pre
          rw [e1] at z
          rcases List.mem_append.mp z with z | z
          · exact n z
          · exact f1 _ z q
        have d3 : H3 D₀ = some (.lst vacc) := E3.keep _ _ hd2 nD (fun ps z => by cases z)
        refine ⟨D₀ :: x, m2, ρ', S2, q3, ?_⟩
        cases ht : t1 ρ' S2 with
        | un => rw [ht] at hl; cases hl
        | ex ee S' => rw [ht] at hl; cases hl
        | ok b S3 =>
          rw [ht] at hl
          intro m4 H4 E4 R4
          have q4 := q3.ext E4 R4
          have d4 : H4 D₀ = some (.lst vacc) := E4.keep _ _ d3 nD (fun ps z => by cases z)
          have n4 := nD' E4 nD ⟨_, d3, fun ps z => by cases z⟩
          cases b with
          | false =>
            exact iteF ⟨m4, S3, acc, vacc, rest, (E2.trans E3).trans E4, ⟨(p3.ext E4 R4).env, R4, (p3.ext E4 R4).ex, (p3.ext E4 R4).tab⟩, d4, r2.keep ((E3.trans E4).kp), by omega, hl, hy, n4⟩
          | true =>
            dsimp only at hl
            refine iteT ⟨a, rfl, ?_, ?_⟩
            · cases hes (D₀ :: x ++ m4) H4 with
              | tup h1 h2 => exact ⟨_, h1⟩
            · cases hf : lcL tg2 t2 f (wipeE ρ' vs1) es S3 with
              | un => rw [hf] at hl; cases hl
              | ex ee S' => rw [hf] at hl; cases hl
              | ok zs S4 =>
                rw [hf] at hl
                dsimp only at hl
                cases hr : lc2L tg1 t1 es tg2 t2 f vs1 (wipeE ρ own) (ds.drop (i + 1)) S4 with
                | un => rw [hr] at hl; cases hl
                | ex ee S' => rw [hr] at hl; cases hl
                | ok rest' S5 =>
                  rw [hr] at hl
                  cases hl
                  have hz : 1000 * i + es.length < sizeLine := by
                    have h3 : 1000 * i + es.length ≤ 1001000 := by
                      have := hbig.1
                      have := hbig.2
                      omega
                    exact Nat.lt_of_le_of_lt h3 (by rw [sizeLine_eq]; decide)
                  refine lc_inner ho2 hes hD p1.tab ((E2.trans E3).trans E4) q4 ((p3.ext E4 R4).env) d4 (r2.keep ((E3.trans E4).kp)) hv hz n4 hf fun m' H' vacc' E' R' x' t' oe' d' r' hv' nD' => ?_
                  exact ⟨m', S4, acc ++ zs, vacc', rest', E', ⟨oe', R', x', t'⟩, d', r', by have := hbig.2; omega, hr, by rw [hy, List.append_assoc], nD'⟩
    · have e : i = ds.length := by omega
      rw [e, List.drop_length] at hl
      cases hl
      rw [List.append_nil] at hy
      subst hy
      refine .inl ⟨hY.2 (by omega), ?_⟩
      have ks : Keep (gOf X T) (D₀ :: x ++ m2) H2 (x ++ m2) H2 := keep_sub fun a ha => List.mem_cons_of_mem _ ha
      refine h1 m2 H2 E2 (p2.sto.keep ks (fun b hb => List.mem_append_right _ hb) (fun _ _ => rfl) fun _ _ q => q) _ (.d (.lst hd2 (fun z => ?_) (r2.keep ks)))
      rcases List.mem_append.mp z with z | z
      · obtain ⟨o, q, _⟩ := p1.ex _ z
        rw [hD] at q; cases q
      · exact nD z
variable {elt tg iter tgB : Expr} {ifs ifs1 : List Expr} {scope : Scope} {pos : Pos} {fi : MI} {t1 t2 : MT} {f : ME}
theorem e_lc2 (tgt tgt2 : Tg) (own : List (Str × Nat)) (vs1 : List Nat) {c : Str} {es : List D} {cp : Pos} (kc : KD (gOf X T) c (.tup es)) (hc : X.calm = true) (hN : X.N.Nodup) (hi : PI X tg iter (tI (gOf X T) W fi)) (ok : BlkOk X.N X.env.scope scope own)
    (hg : ∀ (s : Shared) (H : Hp) (C : Addr) (cl : List (Str × Addr)) (fp : List Addr), PG (X.blk s H scope (compEnvC scope cl C X.env) fp) tg (gT X.K tgt))
    (ht : ∀ (s : Shared) (H : Hp) (C : Addr) (cl : List (Str × Addr)) (fp : List Addr), Takes (X.blk s H scope (compEnvC scope cl C X.env) fp) WF → PTs (X.blk s H scope (compEnvC scope cl C X.env) fp) ifs (tT (gOf (X.blk s H scope (compEnvC scope cl C X.env) fp) T) WF t1))
    (hg1 : ∀ (s : Shared) (H : Hp) (C : Addr) (cl : List (Str × Addr)) (fp : List Addr), PG (X.blk s H scope (compEnvC scope cl C X.env) fp) tgB (gT X.K tgt2))
    (ht1 : ∀ (s : Shared) (H : Hp) (C : Addr) (cl : List (Str × Addr)) (fp : List Addr), Takes (X.blk s H scope (compEnvC scope cl C X.env) fp) WF → PTs (X.blk s H scope (compEnvC scope cl C X.env) fp) ifs1 (tT (gOf (X.blk s H scope (compEnvC scope cl C X.env) fp) T) WF t2))
    (he : ∀ (s : Shared) (H : Hp) (C : Addr) (cl : List (Str × Addr)) (fp : List Addr), Takes (X.blk s H scope (compEnvC scope cl C X.env) fp) WF → PE (X.blk s H scope (compEnvC scope cl C X.env) fp) elt (tE (gOf (X.blk s H scope (compEnvC scope cl C X.env) fp) T) WF f))
    (ho : ∀ i ∈ tgt.ix, i ∈ own.map (·.2)) (ho2 : ∀ i ∈ tgt2.ix, i ∈ vs1) (hv : ∀ i ∈ vs1, i ∈ own.map (·.2))
    (hgl : ∀ (s : Shared) (H : Hp) (C : Addr) (cl : List (Str × Addr)) (fp : List Addr), Gl (X.blk s H scope (compEnvC scope cl C X.env) fp) c := by intros; rfl) (hd : (c == ("__debug__" : Str)) = false := by decide)
    (hs : ∀ x, foldedSetIterable iter X.env x = pure x := by intro _; rfl) (hs1 : ∀ env x, foldedSetIterable (.Name c cp) env x = pure x := by intro _ _; rfl) :
    PE X (.ListComp elt [⟨tg, iter, ifs, 0⟩, ⟨tgB, .Name c cp, ifs1, 0⟩] scope pos) (tE (gOf X T) W (lc2M fi tgt t1 es tgt2 t2 f (own.map (·.2)) vs1)) := by
  obtain ⟨u, v, k1, k2, k3⟩ := kc.ex
  obtain ⟨a, rfl⟩ : ∃ a, v = .ref a := by
    cases k3 [] (fun _ => none) with
    | tup _ _ => exact ⟨_, rfl⟩
  exact pe_mono (pe_lc2 hc hN hi ok hv hg (fun s H C cl fp => ht s H C cl fp takes0) (fun s H C cl fp => pi_tup (pe_glob (hgl s H C cl fp) k1 k2 hd)) hg1 (fun s H C cl fp => ht1 s H C cl fp takes0) (fun s H C cl fp => he s H C cl fp takes0) hs hs1) fun σ H Q h => lc2_red k3 ho ho2 h
/-! ### t.index(x): a tuple of texts -/
def fndS : List Str → Str → Option Nat
  | [], _ => none
  | y :: ys, z => if y = z then some 0 else (fndS ys z).map (· + 1)
theorem fndS_ok : ∀ {ys : List Str} {z : Str} {j : Nat}, fndS ys z = some j → ys[j]? = some z ∧ ∀ m, m < j → ys[m]? ≠ some z
  | [], _, _, h => by simp [fndS] at h
  | y :: ys, z, j, h => by
    unfold fndS at h
    split at h
    · rename_i e
      cases h
      exact ⟨by simp [e], fun m hm => by omega⟩
    · rename_i e
      obtain ⟨k, hk, rfl⟩ := Option.map_eq_some_iff.mp h
      obtain ⟨h1, h2⟩ := fndS_ok hk
      refine ⟨by simpa using h1, fun m hm => ?_⟩
      cases m with
      | zero => simpa using e
      | succ m => simpa using h2 m (by omega)
structure KT (G : Gc) (x : Str) (ys : List Str) : Prop where
  ex : ∃ (a : Addr) (its : Array Value) (n : Nat) (sl : Array (Option Value)), G.mg x = some (.ref a) ∧ G.K.lookup a = some ⟨.type "tuple", none, .seq its n, sl⟩ ∧ its.size ≤ 1000 ∧ Vals (ys.map V.str) its.toList
def idxM (ys : List Str) (g : ME) : ME := fun ρ S => (argsM [g] ρ S).bind fun us S2 => match us with
  | [.d (.str z)] => match fndS ys z with
    | some j => .ok (.d (.int (j : Nat))) S2
    | none => .un
  | _ => .un
theorem e_idx {x : Str} {ys : List Str} {e : Expr} {g : ME} {apos pos px : Pos} (kt : KT (gOf X T) x ys) (he : PE X e (tE (gOf X T) W g)) (hg : Gl X x := by rfl) (hd : (x == ("__debug__" : Str)) = false := by decide)
    (hbase : attributeBase (.Name x px) "index" X.env (eval (.Name x px) X.env) = eval (.Name x px) X.env := by rfl)
    (hfew : ((backTo pos (starEach (e :: []) X.env)).all (fun x => !x.1) && (backToKw pos (keywordEach [] X.env)).all (fun x => x.1.isSome)
      && decide ((e :: []).length + ([] : List Keyword).length + (if ([] : List Keyword).isEmpty then 0 else 1) < 30)) = true := by rfl)
    (hline : (apos.endLine == pos.line) = true := by rfl) (hs : starEach (e :: []) X.env = (false, eval e X.env) :: starEach [] X.env := by rfl) (hplain : (backTo pos (starEach [] X.env)).any (·.1) = false := by rfl) :
    PE X (.Call (.Attribute (.Name x px) "index" apos) [e] [] pos) (tE (gOf X T) W (idxM ys g)) := by
  obtain ⟨a, its, n, sl, h1, h2, h3, h4⟩ := kt.ex
  refine pe_mono (pe_bm PySem.F.plainAttrs_tuple PySem.F.slot_tuple_index PySem.F.type_tuple_index mt_tup_index (pe_glob hg h1 (v := .ref a) rfl hd) (a_cons he a_nil hs) hbase hfew hline hs hplain) fun σ H Q h => ?_
  obtain ⟨x, m, ρ, S, p, h⟩ := h
  refine ⟨.inr (.inl ⟨rfl, _, h2, rfl, rfl⟩), x, m, ρ, S, p, (Post.bind h).mono fun us S2 m2 H2 E2 R2 ⟨_, _, h2'⟩ ws rws => ?_⟩
  split at h2'
  · rename_i z
    split at h2'
    · rename_i j hj
      obtain ⟨g1, g2⟩ := fndS_ok hj
      cases rws with
      | cons r t => cases t; cases r with
        | d r =>
          cases r
          exact ⟨a, ys, _, j, rfl, rfl, .inr ⟨_, its, n, h2, rfl, rfl, Nat.le_of_lt (small1000 h3), h4⟩, g1, g2, h2' m2 H2 Ext.refl R2 _ (.d (.int _))⟩
    · exact h2'.elim
  · exact h2'.elim
theorem kt_of {P : Program} {w : World} {K : PySem.W.Frag} {mg : Str → Option Value} {h : Heap} {x : Str} {a : Addr} {its : Array Value} {n : Nat} {sl : Array (Option Value)} {ys : List Str} (X : K.In h) (G : h.Ns mainGlobals mg) (g : PySem.W.nsIn K mainGlobals x = some (some (.ref a))) (l : K.lookup a = some ⟨.type "tuple", none, .seq its n, sl⟩) (z : its.size ≤ 1000) (v : Vals (ys.map V.str) its.toList) :
    KT ⟨P, w, K, mg, T⟩ x ys := ⟨a, its, n, sl, PySem.W.mg_of X G g, l, z, v⟩
end
end Mir

/-! Mir22: classes named in except; dict(pairs); list.index; a tuple with cells that is handed back. -/
namespace Mir
open PySem PySem.Spec PyProof.Rows L2 RZ
theorem exm_is {K : PySem.W.Frag} {S C : Addr} {b : Bool} (h1 : PySem.W.subIn K (.ref C) (.type "BaseException") = some true) (h2 : PySem.W.isClsIn K C = true) (h3 : PySem.W.typeIn K (.ref C) = some (.type "type")) (h4 : PySem.W.subIn K (.ref S) (.ref C) = some b) :
    PySem.W.exmOne K (.ref S) (.ref C) = some b := by
  have e1 : (PySem.W.subIn K (.ref C) (.type "BaseException") == some true) = true := by rw [h1] <;> rfl
  have e2 : ((PySem.W.clsIn K C).isSome && PySem.W.typeIn K (.ref C) == some (.type "type")) = true := by
    have h2' : (PySem.W.clsIn K C).isSome = true := h2
    rw [h2', h3] <;> rfl
  show (if (PySem.W.subIn K (.ref C) (.type "BaseException") == some true) = true then (if ((PySem.W.clsIn K C).isSome && PySem.W.typeIn K (.ref C) == some (.type "type")) = true then PySem.W.subIn K (.ref S) (.ref C) else none) else none) = some b
  rw [if_pos e1, if_pos e2]
  exact h4
end Mir

/-! Mir23: list(zip(a, b)) of lists, tuples; list(range(..)). -/
namespace Mir
open PySem PySem.Spec PyProof.Rows L2 RZ
namespace LZ
open Sem (wp)
section
variable {prog : Program} {w : World} {A : Around} {E : Value → Shared → Prop} {s : Shared} {z TI TO i1 i2 : Addr} {fp1 fp2 : List Addr} {n1 n2 i : Nat} {P1 P2 : Nat → Value → Prop} {St1 St2 : Nat → Heap → Prop}
theorem next_item {T : Addr} {f : Bool} {oT : Obj} {Q : Value → Shared → Prop} (S : ZipSep2 z TI TO i1 i2 fp1 fp2) (D1 : Draws prog w A i1 fp1 n1 P1 St1) (D2 : Draws prog w A i2 fp2 n2 P2 St2)
    (hz : IsZipHeld s.heap z TI TO T f) (hT : s.heap.get? T = some oT) (hTI : IsTupOf2 s.heap TI (.ref i1) (.ref i2)) (st1 : St1 i s.heap) (st2 : St2 i s.heap) (hlt1 : i < n1) (hlt2 : i < n2)
    (hQ : ∀ x1 x2 h' tk, P1 i x1 → P2 i x2 → IsZipHeld h' z TI TO T true → St1 (i + 1) h' → St2 (i + 1) h' → IsTupOf2 h' s.heap.objs.size x1 x2 → h'.objs.size = s.heap.objs.size + 1 →
      (∀ c o, c ≠ z → c ≠ i1 → c ≠ i2 → s.heap.get? c = some o → h'.get? c = some o) → Q (Value.ref s.heap.objs.size) { s with heap := h', toks := tk }) :
    wpAny (model prog w) A (Builtin.«zip.__next__» ⟨[.ref z], []⟩) (fun fin s' => ∃ v, fin = .done (.ret v) ∧ Q v s') E s := by
  obtain ⟨hp, g, d, tk0, os⟩ := s
  show wpAny _ _ (field (.ref z) 2 >>= _) _ _ _
  refine wpAny_bind (wpAny_field hz rfl (x := .bool false) rfl ?_)
  show wpAny _ _ (field (.ref z) 3 >>= _) _ _ _
  refine wpAny_bind (wpAny_field hz rfl (x := .ref TI) rfl ?_)
  refine wpAny_bind (wpAny_seqItems hTI rfl ?_)
  show wpAny _ _ (Builtin.SmallTypes.ownedTupleIsFree (.ref z) >>= _) _ _ _
  refine wpAny_bind (wpAny_tupleHeld_zip hz hT fun h₁ hz₁ hs₁ => ?_)
  replace hs₁ : Heap.SameBut z hp h₁ := hs₁
  simp only [Bool.false_eq_true, if_false]
  refine wpAny_bind ?_
  rw [← Array.forIn_toList]
  simp only [List.forIn_cons, List.forIn_nil]
  refine wpAny_bind (wpAny_bind (wpAny_holding ?_))
  show wpAny _ _ (Builtin.SmallTypes.nextOf (.ref i1) >>= _) _ _ _
  refine wpAny_bind (D1.item i ⟨h₁, g, d, tk0, os⟩ _ _ hlt1 (D1.over st1 hs₁ S.zf1) fun x1 p1 tk1 hx1 sn1 hp1 => wpAny_pure ?_)
  replace hp1 : Heap.SameBut i1 h₁ p1 := hp1
  refine wpAny_pure ?_
  refine wpAny_bind (wpAny_bind (wpAny_holding ?_))
  show wpAny _ _ (Builtin.SmallTypes.nextOf (.ref i2) >>= _) _ _ _
  refine wpAny_bind (D2.item i ⟨p1, g, d, tk1, os⟩ _ _ hlt2 (D2.over (D2.over st2 hs₁ S.zf2) hp1 S.sep1_2) fun x2 p2 tk2 hx2 sn2 hp2 => wpAny_pure ?_)
  replace hp2 : Heap.SameBut i2 p1 p2 := hp2
  refine wpAny_pure (wpAny_pure ?_)
  show wpAny _ _ (newTuple [x1, x2] >>= _) _ _ _
  refine wpAny_bind (wpAny_newTuple ?_)
  have hsz : p2.objs.size = hp.objs.size := by rw [hp2.1, hp1.1, hs₁.1]
  have hz₃ : IsZipHeld p2 z TI TO T true := hp2.extBut _ _ S.zi2 (hp1.extBut _ _ S.zi1 hz₁)
  have hk : ∀ c o, c ≠ z → c ≠ i1 → c ≠ i2 → hp.get? c = some o → p2.get? c = some o := fun c o c1 c2 c3 e => hp2.extBut _ _ c3 (hp1.extBut _ _ c2 (hs₁.extBut _ _ c1 e))
  have h1₃ : St1 (i + 1) p2 := D1.over sn1 hp2 S.sep2_1
  refine wpAny_pure ⟨_, rfl, ?_⟩
  show Q (.ref p2.objs.size) _
  have hpr : IsTupOf2 (p2.push { cls := .type "tuple", data := .seq #[x1, x2] }) p2.objs.size x1 x2 := Heap.get?_push_size _ rfl
  have hz4 : (p2.push { cls := .type "tuple", data := .seq #[x1, x2] }).objs.size = p2.objs.size + 1 := Heap.size_push ..
  rw [hsz] at hpr hz4 ⊢
  exact hQ x1 x2 _ tk2 hx1 hx2 (Heap.get?_push_of_some _ hz₃) (D1.frame _ _ _ h1₃ fun b _ o e => Heap.get?_push_of_some _ e) (D2.frame _ _ _ sn2 fun b _ o e => Heap.get?_push_of_some _ e) hpr hz4 fun c o c1 c2 c3 e => Heap.get?_push_of_some _ (hk c o c1 c2 c3 e)
theorem next_end {T : Addr} {f : Bool} {oT : Obj} {Q : Fin → Shared → Prop} (S : ZipSep2 z TI TO i1 i2 fp1 fp2) (D1 : Draws prog w A i1 fp1 n1 P1 St1) (D2 : Draws prog w A i2 fp2 n2 P2 St2)
    (hz : IsZipHeld s.heap z TI TO T f) (hT : s.heap.get? T = some oT) (hTI : IsTupOf2 s.heap TI (.ref i1) (.ref i2)) (st1 : St1 i s.heap) (st2 : St2 i s.heap) (hle1 : i ≤ n1) (hle2 : i ≤ n2) (hend : i = n1 ∨ i = n2)
    (hE : ∀ h' tk e, (∀ c o, c ≠ z → c ≠ i1 → c ≠ i2 → s.heap.get? c = some o → h'.get? c = some o) → (∃ o, h'.get? e = some o ∧ o.cls = .type "StopIteration") → E (.ref e) { s with heap := h', toks := tk }) :
    wpAny (model prog w) A (Builtin.«zip.__next__» ⟨[.ref z], []⟩) Q E s := by
  obtain ⟨hp, g, d, tk0, os⟩ := s
  show wpAny _ _ (field (.ref z) 2 >>= _) _ _ _
  refine wpAny_bind (wpAny_field hz rfl (x := .bool false) rfl ?_)
  show wpAny _ _ (field (.ref z) 3 >>= _) _ _ _
  refine wpAny_bind (wpAny_field hz rfl (x := .ref TI) rfl ?_)
  refine wpAny_bind (wpAny_seqItems hTI rfl ?_)
  show wpAny _ _ (Builtin.SmallTypes.ownedTupleIsFree (.ref z) >>= _) _ _ _
  refine wpAny_bind (wpAny_tupleHeld_zip hz hT fun h₁ hz₁ hs₁ => ?_)
  replace hs₁ : Heap.SameBut z hp h₁ := hs₁
  simp only [Bool.false_eq_true, if_false]
  refine wpAny_bind ?_
  rw [← Array.forIn_toList]
  simp only [List.forIn_cons, List.forIn_nil]
  refine wpAny_bind (wpAny_bind (wpAny_holding ?_))
  show wpAny _ _ (Builtin.SmallTypes.nextOf (.ref i1) >>= _) _ _ _
  by_cases hlt1 : i < n1
  · refine wpAny_bind (D1.item i ⟨h₁, g, d, tk0, os⟩ _ _ hlt1 (D1.over st1 hs₁ S.zf1) fun x1 p1 tk1 hx1 sn1 hp1 => wpAny_pure ?_)
    replace hp1 : Heap.SameBut i1 h₁ p1 := hp1
    refine wpAny_pure ?_
    refine wpAny_bind (wpAny_bind (wpAny_holding ?_))
    show wpAny _ _ (Builtin.SmallTypes.nextOf (.ref i2) >>= _) _ _ _
    have hi2 : i = n2 := by omega
    refine wpAny_bind (D2.done ⟨p1, g, d, tk1, os⟩ _ _ (by rw [← hi2]; exact D2.over (D2.over st2 hs₁ S.zf2) hp1 S.sep1_2) fun q e hq he => ?_)
    replace hq : Heap.ExtBut i2 p1 q := hq
    exact hE q tk1 e (fun c o cz c1 c2 x => hq _ _ c2 (hp1.extBut _ _ c1 (hs₁.extBut _ _ cz x))) he
  · have hi1 : i = n1 := by omega
    refine wpAny_bind (D1.done ⟨h₁, g, d, tk0, os⟩ _ _ (by rw [← hi1]; exact D1.over st1 hs₁ S.zf1) fun q e hq he => ?_)
    replace hq : Heap.ExtBut i1 h₁ q := hq
    exact hE q tk0 e (fun c o cz c1 c2 x => hq _ _ c1 (hs₁.extBut _ _ cz x)) he
theorem py_item {T : Addr} {f : Bool} {oT : Obj} {Q : Option Value → Shared → Prop} (S : ZipSep2 z TI TO i1 i2 fp1 fp2) (D1 : Draws prog w A.in1 i1 fp1 n1 P1 St1) (D2 : Draws prog w A.in1 i2 fp2 n2 P2 St2)
    (hz : IsZipHeld s.heap z TI TO T f) (hT : s.heap.get? T = some oT) (hTI : IsTupOf2 s.heap TI (.ref i1) (.ref i2)) (st1 : St1 i s.heap) (st2 : St2 i s.heap) (hlt1 : i < n1) (hlt2 : i < n2)
    (hQ : ∀ x1 x2 h' tk, P1 i x1 → P2 i x2 → IsZipHeld h' z TI TO T true → St1 (i + 1) h' → St2 (i + 1) h' → IsTupOf2 h' s.heap.objs.size x1 x2 → h'.objs.size = s.heap.objs.size + 1 →
      (∀ c o, c ≠ z → c ≠ i1 → c ≠ i2 → s.heap.get? c = some o → h'.get? c = some o) → Q (some (Value.ref s.heap.objs.size)) { s with heap := h', toks := tk }) :
    wpAny (model prog w) A (pyNext (.ref z)) Q E s := by
  have hTy : s.TypeIs (.ref z) "zip" := ⟨_, hz, rfl⟩
  unfold pyNext
  exact wpAny_bind (wpAny_attempt (wpAny_callSpecial?_slot (name := Str.ofString "__next__") hTy F.slot_zip_next
    (wpAny_call_entry F.slot_zip_next hTy F.entry_zip_next
      (next_item S D1 D2 hz hT hTI st1 st2 hlt1 hlt2 fun x1 x2 h' tk y1 y2 b1 d1 d2 b5 b6 b7 => wpAny_pure (hQ x1 x2 h' tk y1 y2 b1 d1 d2 b5 b6 b7)) (F.args_zip_next_1 _))))
theorem py_end {T : Addr} {f : Bool} {oT : Obj} {Q : Option Value → Shared → Prop} (S : ZipSep2 z TI TO i1 i2 fp1 fp2) (D1 : Draws prog w A.in1 i1 fp1 n1 P1 St1) (D2 : Draws prog w A.in1 i2 fp2 n2 P2 St2)
    (hz : IsZipHeld s.heap z TI TO T f) (hT : s.heap.get? T = some oT) (hTI : IsTupOf2 s.heap TI (.ref i1) (.ref i2)) (st1 : St1 i s.heap) (st2 : St2 i s.heap) (hle1 : i ≤ n1) (hle2 : i ≤ n2) (hend : i = n1 ∨ i = n2)
    (hQ : ∀ h' tk, (∀ c o, c ≠ z → c ≠ i1 → c ≠ i2 → s.heap.get? c = some o → h'.get? c = some o) → Q none { s with heap := h', toks := tk }) : wpAny (model prog w) A (pyNext (.ref z)) Q E s := by
  have hTy : s.TypeIs (.ref z) "zip" := ⟨_, hz, rfl⟩
  unfold pyNext
  refine wpAny_bind (wpAny_attempt (wpAny_callSpecial?_slot (name := Str.ofString "__next__") hTy F.slot_zip_next
    (wpAny_call_entry F.slot_zip_next hTy F.entry_zip_next (next_end S D1 D2 hz hT hTI st1 st2 hle1 hle2 hend fun h' tk e hk he => ?_) (F.args_zip_next_1 _))))
  obtain ⟨o, ho, hc⟩ := he
  refine wpAny_bind (wpAny_isInstance (T := "StopIteration") (b := true) ⟨o, ho, hc⟩ isSubtype_stop ?_)
  exact wpAny_pure (hQ _ _ hk)
end
theorem zip_no_len : typeLookup (.type "zip") "__len__" = pure none := by rw [typeLookup_type, builtinLookup_eq_fast]; kernel_rfl
theorem zip_no_hint : typeLookup (.type "zip") "__length_hint__" = pure none := by rw [typeLookup_type, builtinLookup_eq_fast]; kernel_rfl
/-- what was put into the list so far: pairs -/
structure Prs (P1 P2 : Nat → Value → Prop) (B : Nat) (h : Heap) (L : Addr) (acc : Array Value) (as : List Addr) (i : Nat) : Prop where
  acc : acc.toList = as.map Value.ref
  len : as.length = i
  at' : ∀ (j : Nat) (p : Addr), as[j]? = some p → ∃ x1 x2, P1 j x1 ∧ P2 j x2 ∧ IsTupOf2 h p x1 x2
  rng : ∀ p ∈ as, B ≤ p ∧ p < h.objs.size ∧ p ≠ L
  nd : as.Nodup
theorem Prs.keep {P1 P2 : Nat → Value → Prop} {B : Nat} {h h' : Heap} {L : Addr} {acc : Array Value} {as : List Addr} {i : Nat} (x : Prs P1 P2 B h L acc as i) (k : ∀ p ∈ as, ∀ o, h.get? p = some o → h'.get? p = some o) : Prs P1 P2 B h' L acc as i := by
  have k2 : ∀ (j : Nat) (p : Addr), as[j]? = some p → ∃ x1 x2, P1 j x1 ∧ P2 j x2 ∧ IsTupOf2 h' p x1 x2 := fun j p e => by
    obtain ⟨x1, x2, a, b, c⟩ := x.at' j p e
    exact ⟨x1, x2, a, b, k p (List.mem_of_getElem? e) _ c⟩
  refine ⟨x.acc, x.len, k2, fun p hp => ?_, x.nd⟩
  obtain ⟨j, hj⟩ := List.getElem?_of_mem hp
  obtain ⟨x1, x2, _, _, c⟩ := k2 j p hj
  exact ⟨(x.rng p hp).1, Heap.lt_size c, (x.rng p hp).2.2⟩
section
variable {prog : Program} {w : World} {A : Around} {R : Result → Shared → Prop} {z TI TO i1 i2 : Addr} {fp1 fp2 : List Addr} {n1 n2 : Nat} {P1 P2 : Nat → Value → Prop} {St1 St2 : Nat → Heap → Prop}
/-- the zip's state in between -/
def Zst (h : Heap) (z TI TO i1 i2 L : Addr) (i : Nat) : Prop := IsTupOf2 h TI (.ref i1) (.ref i2) ∧ ((i = 0 ∧ IsZip h z TI TO .none ∧ ∃ a b, IsTupOf2 h TO a b) ∨ ∃ T f oT, IsZipHeld h z TI TO T f ∧ h.get? T = some oT ∧ T ≠ z ∧ T ≠ TO ∧ T ≠ i1 ∧ T ≠ i2 ∧ T ≠ L)
/-- behind the list's making: what stays -/
abbrev After (P1 P2 : Nat → Value → Prop) (B : Nat) (R : Result → Shared → Prop) (res : Value) (z TO i1 i2 L : Addr) (n : Nat) (s : Shared) : Prop := ∀ h' tk acc' c' as, (∀ b o, b ≠ L → b ≠ z → b ≠ TO → b ≠ i1 → b ≠ i2 → s.heap.get? b = some o → h'.get? b = some o) → h'.get? L = some { cls := .type "list", dict := none, data := .seq acc' c', slots := #[] } → Prs P1 P2 B h' L acc' as n → R (.ok (.ret res)) { s with heap := h', toks := tk }
theorem loop (B : Nat) (S : ZipSep2 z TI TO i1 i2 fp1 fp2) (D1 : Draws prog w A.in1.in1 i1 fp1 n1 P1 St1) (D2 : Draws prog w A.in1.in1 i2 fp2 n2 P2 St2) (L : Addr) (hLz : L ≠ z) (hLTI : L ≠ TI) (hLTO : L ≠ TO) (hL1 : L ∉ fp1) (hL2 : L ∉ fp2) (hn : min n1 n2 ≤ sizeLine) (hBz : z < B) (hBT : TO < B) (hB1 : i1 < B) (hB2 : i2 < B) (res : Value) :
    ∀ (k i : Nat) (s : Shared) (acc : Array Value) (c : Nat) (as : List Addr), min n1 n2 - i = k → i ≤ min n1 n2 → Zst s.heap z TI TO i1 i2 L i → St1 i s.heap → St2 i s.heap → s.heap.get? L = some { cls := .type "list", dict := none, data := .seq acc c, slots := #[] } →
      Prs P1 P2 B s.heap L acc as i → B ≤ s.heap.objs.size → After P1 P2 B R res z TO i1 i2 L (min n1 n2) s →
      codeAny (model prog w) A (.builtin "list.extend.loop" ⟨[.ref L, .ref z, res], []⟩) R s := by
  have hLi1 : L ≠ i1 := fun e => hL1 (by rw [e]; exact S.mem1)
  have hLi2 : L ≠ i2 := fun e => hL2 (by rw [e]; exact S.mem2)
  have off : ∀ {p : Nat}, B ≤ p → p ≠ z ∧ p ≠ TO ∧ p ≠ i1 ∧ p ≠ i2 := fun {p} h => ⟨Nat.ne_of_gt (Nat.lt_of_lt_of_le hBz h), Nat.ne_of_gt (Nat.lt_of_lt_of_le hBT h), Nat.ne_of_gt (Nat.lt_of_lt_of_le hB1 h), Nat.ne_of_gt (Nat.lt_of_lt_of_le hB2 h)⟩
  intro k
  induction k with
  | zero =>
    intro i s acc c as hk hi hz h1 h2 hL hacc hB hR
    refine codeAny_builtin F.entry_extend_loop ?_
    rw [Around.under_plainId F.plain_extend_loop _]
    show wpAny _ A.in1 (pyNext (.ref z) >>= _) _ _ s
    have hin : i = n1 ∨ i = n2 := by omega
    have hin2 : i = min n1 n2 := by omega
    obtain ⟨hTI, hz⟩ := hz
    have fin : ∀ h' tk, (∀ c o, c ≠ z → c ≠ TO → c ≠ i1 → c ≠ i2 → s.heap.get? c = some o → h'.get? c = some o) → R (.ok (.ret res)) { s with heap := h', toks := tk } := fun h' tk hk' => by
      refine hR h' tk acc c as (fun b o _ b1 b2 b3 b4 e => hk' b o b1 b2 b3 b4 e) (hk' _ _ hLz hLTO hLi1 hLi2 hL) (hin2 ▸ hacc.keep fun p hp o e => ?_)
      obtain ⟨a1, a2, a3, a4⟩ := off (hacc.rng p hp).1
      exact hk' _ _ a1 a2 a3 a4 e
    rcases hz with ⟨hi0, hz, a, b, hTO⟩ | ⟨T, f, oT, hz, hT, _⟩
    · refine wpAny_bind (wpAny_pyNext_zipD2_end (i := i) S D1 D2 hz hTI hTO h1 h2 (by omega) (by omega) hin fun h' tk hk' => ?_)
      exact wpAny_pure (fin h' tk hk')
    · refine wpAny_bind (py_end (i := i) S D1 D2 hz hT hTI h1 h2 (by omega) (by omega) hin fun h' tk hk' => ?_)
      exact wpAny_pure (fin h' tk fun c o c1 _ c3 c4 e => hk' c o c1 c3 c4 e)
  | succ k ih =>
    intro i s acc c as hk hi hz h1 h2 hL hacc hB hR
    refine codeAny_builtin F.entry_extend_loop ?_
    rw [Around.under_plainId F.plain_extend_loop _]
    show wpAny _ A.in1 (pyNext (.ref z) >>= _) _ _ s
    obtain ⟨hTI, hz⟩ := hz
    have hsz0 : acc.size = i := by
      have := congrArg List.length hacc.acc
      rw [List.length_map, hacc.len] at this
      simpa using this
    have Llt : L < s.heap.objs.size := Heap.lt_size hL
    -- behind the item
    have go : ∀ (x1 x2 : Value) (h' : Heap) (tk : Nat), P1 i x1 → P2 i x2 → (∃ T f oT, IsZipHeld h' z TI TO T f ∧ h'.get? T = some oT ∧ T ≠ z ∧ T ≠ TO ∧ T ≠ i1 ∧ T ≠ i2 ∧ T ≠ L) → St1 (i + 1) h' → St2 (i + 1) h' → IsTupOf2 h' s.heap.objs.size x1 x2 → h'.objs.size = s.heap.objs.size + 1 →
        (∀ c o, c ≠ z → c ≠ TO → c ≠ i1 → c ≠ i2 → s.heap.get? c = some o → h'.get? c = some o) →
        wpAny (model prog w) A.in1 (updateSeq L (·.push (Value.ref s.heap.objs.size)) >>= fun _ => again (.builtin "list.extend.loop" ⟨[.ref L, .ref z, res], []⟩))
          (fun fin s' => match fin with | .done f => R (.ok f) s' | .again c' => c'.quiet = true ∧ codeAny (model prog w) A c' R s') (fun e s' => R (.error e) s') { s with heap := h', toks := tk } := by
      intro x1 x2 h' tk p1 p2 hzz g1 g2 hT hsz hk'
      have hL' := hk' _ _ hLz hLTO hLi1 hLi2 hL
      refine wpAny_bind ?_
      have up : ∀ b o, b ≠ L → h'.get? b = some o → (h'.update L (Obj.mapSeq (·.push (Value.ref s.heap.objs.size)))).get? b = some o := fun b o hb e => (Heap.get?_update_other _ _ (Ne.symm hb)).trans e
      have a1 : Prs P1 P2 B (h'.update L (Obj.mapSeq (·.push (Value.ref s.heap.objs.size)))) L acc as i := hacc.keep fun p hp o e => by
        obtain ⟨b1, b2, b3⟩ := hacc.rng p hp
        obtain ⟨c1, c2, c3, c4⟩ := off b1
        exact up _ _ b3 (hk' _ _ c1 c2 c3 c4 e)
      have hTn : IsTupOf2 (h'.update L (Obj.mapSeq (·.push (Value.ref s.heap.objs.size)))) s.heap.objs.size x1 x2 := up _ _ (Nat.ne_of_gt Llt) hT
      refine wpAny_updateSeq (s := { s with heap := h', toks := tk }) hL' rfl (wpAny_pure ⟨plainId_quiet F.plain_extend_loop _, ih (i + 1) _ (acc.push (Value.ref s.heap.objs.size)) _ (as ++ [s.heap.objs.size]) (by omega) (by omega) ⟨?_, .inr ?_⟩ ?_ ?_ (Heap.get?_update_self _ hL' rfl) ⟨?_, ?_, fun j p hj => ?_, fun p hp => ?_, ?_⟩ ?_ fun h'' tk' acc' c' as' hk'' hL'' hacc' => ?_⟩) (by rw [hsz0]; omega) (by show (acc.push _).size ≤ sizeLine + 1; rw [Array.size_push, hsz0]; omega)
      · exact up _ _ hLTI.symm (hk' _ _ S.TIz S.TITO S.TIi1 S.TIi2 hTI)
      · obtain ⟨T, f, oT, q1, q2, q3, q4, q5, q6, q7⟩ := hzz
        exact ⟨T, f, oT, up _ _ hLz.symm q1, up _ _ q7 q2, q3, q4, q5, q6, q7⟩
      · exact D1.frame _ _ _ g1 fun b hb o e => up b o (fun q => hL1 (q ▸ hb)) e
      · exact D2.frame _ _ _ g2 fun b hb o e => up b o (fun q => hL2 (q ▸ hb)) e
      · rw [Array.toList_push, hacc.acc, List.map_append]; rfl
      · rw [List.length_append, hacc.len]; rfl
      · by_cases e : j < as.length
        · rw [List.getElem?_append_left e] at hj
          exact a1.at' j p hj
        · rw [List.getElem?_append_right (by omega)] at hj
          have e0 : j - as.length = 0 := by
            have := (List.getElem?_eq_some_iff.mp hj).1
            simp at this; omega
          rw [e0] at hj
          cases hj
          have e1 : j = i := by have := hacc.len; omega
          subst e1
          exact ⟨x1, x2, p1, p2, hTn⟩
      · rcases List.mem_append.mp hp with q | q
        · exact a1.rng p q
        · have e1 : p = s.heap.objs.size := by simpa using q
          rw [e1]
          exact ⟨hB, Heap.lt_size hTn, Nat.ne_of_gt Llt⟩
      · refine List.nodup_append.mpr ⟨hacc.nd, by simp, fun a ha b hb => ?_⟩
        have e1 : b = s.heap.objs.size := by simpa using hb
        rw [e1]
        exact Nat.ne_of_lt (hacc.rng a ha).2.1
      · show B ≤ (h'.update L _).objs.size
        rw [(Heap.SameBut.update h' L _).1, hsz]; exact Nat.le_succ_of_le hB
      · exact hR h'' tk' acc' c' as' (fun b o b0 b1 b2 b3 b4 e => hk'' b o b0 b1 b2 b3 b4 (up b o b0 (hk' b o b1 b2 b3 b4 e))) hL'' hacc'
    rcases hz with ⟨hi0, hz, a, b, hTO⟩ | ⟨T, f, oT, hz, hT, t1, t2, t3, t4, t5⟩
    · refine wpAny_bind (wpAny_pyNext_zipD2_item (i := i) S D1 D2 hz hTI hTO h1 h2 (by omega) (by omega) fun x1 x2 h' tk y1 y2 z' TO' h1' h2' hT hsz hk' => ?_)
      obtain ⟨c1, c2, c3, c4⟩ := off hB
      exact go x1 x2 h' tk y1 y2 ⟨_, false, _, z', hT, c1, c2, c3, c4, Nat.ne_of_gt Llt⟩ h1' h2' hT hsz hk'
    · refine wpAny_bind (py_item (i := i) S D1 D2 hz hT hTI h1 h2 (by omega) (by omega) fun x1 x2 h' tk y1 y2 z' h1' h2' hT' hsz hk' => ?_)
      exact go x1 x2 h' tk y1 y2 ⟨T, true, oT, z', hk' _ _ t1 t3 t4 hT, t1, t2, t3, t4, t5⟩ h1' h2' hT' hsz fun c o c1 _ c3 c4 e => hk' c o c1 c3 c4 e
theorem extend (B : Nat) (S : ZipSep2 z TI TO i1 i2 fp1 fp2) (D1 : Draws prog w A.in1.in1 i1 fp1 n1 P1 St1) (D2 : Draws prog w A.in1.in1 i2 fp2 n2 P2 St2) (L : Addr) (c₀ : Nat) (hLz : L ≠ z) (hLTI : L ≠ TI) (hLTO : L ≠ TO) (hL1 : L ∉ fp1) (hL2 : L ∉ fp2) (hn : min n1 n2 ≤ sizeLine) (hBz : z < B) (hBT : TO < B) (hB1 : i1 < B) (hB2 : i2 < B) (res : Value) {s : Shared} {a b : Value}
    (hz : IsZip s.heap z TI TO .none) (hTI : IsTupOf2 s.heap TI (.ref i1) (.ref i2)) (hTO : IsTupOf2 s.heap TO a b) (h1 : St1 0 s.heap) (h2 : St2 0 s.heap) (hL : s.heap.get? L = some { cls := .type "list", data := .seq #[] c₀ }) (hB : B ≤ s.heap.objs.size)
    (hR : After P1 P2 B R res z TO i1 i2 L (min n1 n2) s) :
    wpAny (model prog w) A.in1 (Builtin.List.listExtendWith (.ref L) (.ref z) res)
      (fun fin s' => match fin with | .done f => R (.ok f) s' | .again c' => c'.quiet = true ∧ codeAny (model prog w) A c' R s') (fun e s' => R (.error e) s') s := by
  have hT : s.TypeIs (.ref z) "zip" := ⟨_, hz, rfl⟩
  unfold Builtin.List.listExtendWith
  refine wpAny_bind (wpAny_typeOf hT ?_)
  have g1 : Builtin.List.listSameRef (.ref L) (.ref z) = false := by simp [Builtin.List.listSameRef, hLz]
  have g2 : (Value.type "zip" == Value.type "list") = false := by decide
  have g3 : (Value.type "zip" == Value.type "tuple") = false := by decide
  simp only [g1, g2, g3, Bool.or_false, Bool.false_eq_true, if_false]
  refine wpAny_bind (wpAny_pyIter_zip hz ?_)
  refine wpAny_bind (wpAny_holding ?_)
  unfold Builtin.List.listLengthHint
  refine wpAny_bind (wpAny_specialOf hT zip_no_len ?_)
  show wpAny _ A.in1 (specialOf (Value.ref z) (Str.ofString "__length_hint__") >>= _) _ _ _
  refine wpAny_bind (wpAny_specialOf hT zip_no_hint ?_)
  refine wpAny_pure ?_
  show wpAny _ A.in1 (rule "list.extend.makes-room" >>= fun _ => Builtin.List.listTouch (.ref L) >>= fun _ =>
    again (.builtin "list.extend.loop" ⟨[.ref L, .ref z, res], []⟩)) _ _ _
  refine wpAny_bind (wpAny_rule ?_)
  refine wpAny_bind ?_
  show wpAny _ A.in1 (updateSeq L (·.push .none) >>= fun _ => updateSeq L (·.pop)) _ _ _
  refine wpAny_bind (wpAny_updateSeq hL rfl ?_)
  have hL₂ := Heap.get?_update_self (Obj.mapSeq (·.push Value.none)) hL rfl
  refine wpAny_updateSeq (hz := by seq_fits) hL₂ rfl ?_
  have hL₃ := Heap.get?_update_self (Obj.mapSeq (·.pop)) hL₂ rfl
  have oth : ∀ b o, b ≠ L → s.heap.get? b = some o → ((s.heap.update L (Obj.mapSeq (·.push Value.none))).update L (Obj.mapSeq (·.pop))).get? b = some o :=
    fun b o hb e => (Heap.get?_update_other _ _ (Ne.symm hb)).trans ((Heap.get?_update_other _ _ (Ne.symm hb)).trans e)
  have szE : ((s.heap.update L (Obj.mapSeq (·.push Value.none))).update L (Obj.mapSeq (·.pop))).objs.size = s.heap.objs.size := by
    rw [(Heap.SameBut.update _ L _).1, (Heap.SameBut.update _ L _).1]
  refine wpAny_pure ⟨plainId_quiet F.plain_extend_loop _, loop B S D1 D2 L hLz hLTI hLTO hL1 hL2 hn hBz hBT hB1 hB2 res _ 0 _ _ _ [] rfl (Nat.zero_le _) ⟨oth _ _ hLTI.symm hTI, .inl ⟨rfl, oth _ _ hLz.symm hz, a, b, oth _ _ hLTO.symm hTO⟩⟩ ?_ ?_ hL₃ ⟨rfl, rfl, fun j p hj => by simp at hj, fun p hp => (by cases hp), List.nodup_nil⟩ ?_ fun h' tk acc' c' as hk' hL' hacc => ?_⟩
  · exact D1.frame _ _ _ h1 fun b hb o e => oth b o (fun q => hL1 (q ▸ hb)) e
  · exact D2.frame _ _ _ h2 fun b hb o e => oth b o (fun q => hL2 (q ▸ hb)) e
  · show B ≤ Array.size _
    rw [szE]; exact hB
  · exact hR h' tk acc' c' as (fun b o b0 b1 b2 b3 b4 e => hk' b o b0 b1 b2 b3 b4 (oth b o b0 e)) hL' hacc
theorem init (B : Nat) (S : ZipSep2 z TI TO i1 i2 fp1 fp2) (D1 : Draws prog w A.in1.in1 i1 fp1 n1 P1 St1) (D2 : Draws prog w A.in1.in1 i2 fp2 n2 P2 St2) (L : Addr) (hLz : L ≠ z) (hLTI : L ≠ TI) (hLTO : L ≠ TO) (hL1 : L ∉ fp1) (hL2 : L ∉ fp2) (hn : min n1 n2 ≤ sizeLine) (hBz : z < B) (hBT : TO < B) (hB1 : i1 < B) (hB2 : i2 < B) {s : Shared} {a b : Value}
    (hz : IsZip s.heap z TI TO .none) (hTI : IsTupOf2 s.heap TI (.ref i1) (.ref i2)) (hTO : IsTupOf2 s.heap TO a b) (h1 : St1 0 s.heap) (h2 : St2 0 s.heap) (hL : s.heap.get? L = some { cls := .type "list", data := .seq #[] }) (hB : B ≤ s.heap.objs.size)
    (hR : After P1 P2 B R .none z TO i1 i2 L (min n1 n2) s) :
    wpAny (model prog w) A.in1 (Builtin.«list.__init__» ⟨[.ref L, .ref z], []⟩)
      (fun fin s' => match fin with | .done f => R (.ok f) s' | .again c' => c'.quiet = true ∧ codeAny (model prog w) A c' R s') (fun e s' => R (.error e) s') s := by
  show wpAny _ _ (do let old ← Builtin.List.listItems (.ref L); Builtin.List.listUpdate (.ref L) (fun _ => #[]); letGo old.toList.reverse; Builtin.List.listExtendWith (.ref L) (.ref z) .none) _ _ s
  refine wpAny_bind ?_
  unfold Builtin.List.listItems
  refine wpAny_bind (wpAny_seqItems hL rfl (wpAny_pure ?_))
  show wpAny _ _ (updateSeq L (fun _ => #[]) >>= fun _ => letGo (#[] : Array Value).toList.reverse >>= fun _ => Builtin.List.listExtendWith (.ref L) (.ref z) .none) _ _ s
  refine wpAny_bind (wpAny_updateSeq hL rfl ?_)
  have hL₂ := Heap.get?_update_self (Obj.mapSeq (fun _ => (#[] : Array Value))) hL rfl
  have oth : ∀ b o, b ≠ L → s.heap.get? b = some o → (s.heap.update L (Obj.mapSeq (fun _ => (#[] : Array Value)))).get? b = some o :=
    fun b o hb e => (Heap.get?_update_other _ _ (Ne.symm hb)).trans e
  refine wpAny_bind (wpAny_letGo ?_)
  refine extend B S D1 D2 L _ hLz hLTI hLTO hL1 hL2 hn hBz hBT hB1 hB2 .none (oth _ _ hLz.symm hz) (oth _ _ hLTI.symm hTI) (oth _ _ hLTO.symm hTO) ?_ ?_ hL₂ ?_ fun h' tk acc' c' as hk hL' hacc => ?_
  · exact D1.frame _ _ _ h1 fun b hb o e => oth b o (fun q => hL1 (q ▸ hb)) e
  · exact D2.frame _ _ _ h2 fun b hb o e => oth b o (fun q => hL2 (q ▸ hb)) e
  · show B ≤ Array.size _
    rw [(Heap.SameBut.update _ L _).1]; exact hB
  · exact hR h' tk acc' c' as (fun b o b0 b1 b2 b3 b4 e => hk b o b0 b1 b2 b3 b4 (oth b o b0 e)) hL' hacc
/-- list(z): z a zip that nobody has drawn from -/
theorem call {E : Value → Shared → Prop} {Q : Value → Shared → Prop} (S : ZipSep2 z TI TO i1 i2 fp1 fp2) (D1 : Draws prog w A.in1.in1.in1 i1 fp1 n1 P1 St1) (D2 : Draws prog w A.in1.in1.in1 i2 fp2 n2 P2 St2) (hn : min n1 n2 ≤ sizeLine) {s : Shared} {a b : Value}
    (hz : IsZip s.heap z TI TO .none) (hTI : IsTupOf2 s.heap TI (.ref i1) (.ref i2)) (hTO : IsTupOf2 s.heap TO a b) (h1 : St1 0 s.heap) (h2 : St2 0 s.heap) (hf1 : ∀ c ∈ fp1, c < s.heap.objs.size) (hf2 : ∀ c ∈ fp2, c < s.heap.objs.size)
    (hQ : ∀ h' tk acc' c' as, (∀ b o, b ≠ z → b ≠ TO → b ≠ i1 → b ≠ i2 → s.heap.get? b = some o → h'.get? b = some o) → h'.get? s.heap.objs.size = some { cls := .type "list", dict := none, data := .seq acc' c', slots := #[] } → Prs P1 P2 s.heap.objs.size h' s.heap.objs.size acc' as (min n1 n2) → Q (.ref s.heap.objs.size) { s with heap := h', toks := tk }) :
    wpAny (model prog w) A (PySem.call (.type "list") [.ref z]) Q E s := by
  refine callType_codes (Q₁ := fun obj s₁ => obj = .ref s.heap.objs.size ∧ s₁ = { s with heap := s.heap.push { cls := .type "list", data := .seq #[] } }) F.called_list (F.typeCall_list_1 _) F.entry_list_init
    (code_list_new _ ⟨rfl, rfl⟩) fun obj s₁ h₁ => ?_
  obtain ⟨rfl, rfl⟩ := h₁
  have hS : (s.heap.push { cls := .type "list", data := .seq #[] }).get? s.heap.objs.size = some { cls := .type "list", data := .seq #[] } := Heap.get?_push_size _ rfl
  have up : ∀ b o, s.heap.get? b = some o → (s.heap.push { cls := .type "list", data := .seq #[] }).get? b = some o := fun b o e => Heap.get?_push_of_some _ e
  refine ⟨⟨_, hS, rfl⟩, F.args_list_init_2 _ _, init (A := A.in1) s.heap.objs.size S D1 D2 s.heap.objs.size (Nat.ne_of_gt (Heap.lt_size hz)) (Nat.ne_of_gt (Heap.lt_size hTI)) (Nat.ne_of_gt (Heap.lt_size hTO)) (fun q => Nat.lt_irrefl _ (hf1 _ q)) (fun q => Nat.lt_irrefl _ (hf2 _ q)) hn (Heap.lt_size hz) (Heap.lt_size hTO) (hf1 _ S.mem1) (hf2 _ S.mem2) (up _ _ hz) (up _ _ hTI) (up _ _ hTO)
    (D1.frame _ _ _ h1 fun b _ o e => up b o e) (D2.frame _ _ _ h2 fun b _ o e => up b o e) hS (by show s.heap.objs.size ≤ (s.heap.push _).objs.size; rw [Heap.size_push]; exact Nat.le_succ _) fun h' tk acc' c' as hk hS' hacc => ?_⟩
  exact ⟨rfl, hQ h' tk acc' c' as (fun b o b1 b2 b3 b4 e => hk b o (Nat.ne_of_lt (Heap.lt_size e)) b1 b2 b3 b4 (up b o e)) hS' hacc⟩
end
end LZ
/-- the tuples at their addresses -/
def putP : Hp → List Addr → List (V × V) → Hp
  | H, a :: as, p :: kvs => putP (upd H a (.tup [p.1, p.2])) as kvs
  | H, _, _ => H
theorem putP_off {b : Addr} : ∀ (as : List Addr) (kvs : List (V × V)) (H : Hp), b ∉ as → putP H as kvs b = H b
  | [], _, _, _ => rfl
  | _ :: _, [], _, _ => rfl
  | a :: as, p :: kvs, H, h => by
    show putP (upd H a (.tup [p.1, p.2])) as kvs b = H b
    rw [putP_off as kvs _ (fun z => h (List.mem_cons_of_mem _ z)), upd_ne (fun z => h (by rw [z]; exact List.mem_cons_self))]
theorem putP_at : ∀ (as : List Addr) (kvs : List (V × V)) (H : Hp) (j : Nat) (t : Addr) (p : V × V), as.Nodup → as[j]? = some t → kvs[j]? = some p → putP H as kvs t = some (.tup [p.1, p.2])
  | [], _, _, j, t, p, _, h, _ => by simp at h
  | _ :: _, [], _, j, t, p, _, _, h => by simp at h
  | a :: as, q :: kvs, H, 0, t, p, hn, h, h' => by
    simp only [List.getElem?_cons_zero, Option.some.injEq] at h h'
    subst h h'
    show putP (upd H a (.tup [q.1, q.2])) as kvs a = _
    rw [putP_off as kvs _ (List.nodup_cons.mp hn).1, upd_same]
  | a :: as, q :: kvs, H, j + 1, t, p, hn, h, h' => putP_at as kvs (upd H a (.tup [q.1, q.2])) j t p (List.nodup_cons.mp hn).2 (by simpa using h) (by simpa using h')
section
variable {X : Cx}
theorem pairs_laid {pins : List (Addr × Obj)} {σ : L2.St} {H : Hp} {s : Shared} {h' : Heap} {tk : Nat} {L : Addr} {kvs : List (V × V)} {us vs : List Value} {acc : Array Value} {c : Nat} {as : List Addr} (I : Inv X pins σ H s) (hl : as.length = kvs.length) (hz : kvs.length ≤ sizeLine)
    (hk : ∀ b o, s.heap.get? b = some o → h'.get? b = some o) (hLn : s.heap.objs.size ≤ L) (hS : h'.get? L = some { cls := .type "list", dict := none, data := .seq acc c, slots := #[] }) (hacc : acc.toList = as.map Value.ref) (hn : as.Nodup) (hr : ∀ p ∈ as, s.heap.objs.size ≤ p ∧ p ≠ L)
    (hat : ∀ (j : Nat) (t : Addr) (p : V × V), as[j]? = some t → kvs[j]? = some p → ∃ x1 x2, RelV p.1 x1 ∧ RelV p.2 x2 ∧ IsTupOf2 h' t x1 x2) :
    Inv X pins σ (putP (upd H L (.lst (as.map V.ref))) as kvs) { s with heap := h', toks := tk } ∧ (∀ b u, H b = some u → (putP (upd H L (.lst (as.map V.ref))) as kvs) b = some u) ∧ H L = none ∧ (∀ t ∈ as, H t = none) ∧ putP (upd H L (.lst (as.map V.ref))) as kvs L = some (.lst (as.map V.ref)) := by
  have hSn : L ∉ as := fun z => (hr _ z).2 rfl
  have new : ∀ t ∈ as, H t = none := fun t ht => I.hok.fresh (hr t ht).1
  have newS : H L = none := I.hok.fresh hLn
  have off : ∀ b, b ∉ as → b ≠ L → putP (upd H L (.lst (as.map V.ref))) as kvs b = H b := fun b h1 h2 => by rw [putP_off as kvs _ h1, upd_ne h2]
  have low : ∀ b o, s.heap.get? b = some o → b ∉ as ∧ b ≠ L := fun b o e => ⟨fun z => absurd (Heap.lt_size e) (Nat.not_lt.mpr (hr b z).1), fun z => absurd (Heap.lt_size e) (Nat.not_lt.mpr (z ▸ hLn))⟩
  have kp : ∀ b u, H b = some u → (putP (upd H L (.lst (as.map V.ref))) as kvs) b = some u := fun b u e => by
    rw [off b (fun z => by rw [new b z] at e; cases e) (fun z => by rw [z, newS] at e; cases e)]
    exact e
  have eS : putP (upd H L (.lst (as.map V.ref))) as kvs L = some (.lst (as.map V.ref)) := by rw [putP_off as kvs _ hSn, upd_same]
  refine ⟨I.call' (ch := []) rfl ⟨fun b o q _ _ _ => hk b o q, fun b o q _ _ _ => ⟨o.slots, hk b o q⟩, fun b o q n _ => ?_, fun b o q _ => ⟨o, hk b o q⟩, fun b xs q => kp b _ q, fun b o u q => kp b _ q, fun b ps q => ⟨#[], by rw [kp b _ q]; simp⟩⟩ (fun b u q => ?_) I.bare fun b z => by simp at z, kp, newS, new, eS⟩
  · obtain ⟨z1, z2⟩ := low b o q
    rw [off b z1 z2]
    exact n
  · by_cases hb : b ∈ as
    · obtain ⟨j, hj⟩ := List.getElem?_of_mem hb
      have hjl := (List.getElem?_eq_some_iff.mp hj).1
      have hkj : kvs[j]? = some kvs[j] := List.getElem?_eq_getElem (by omega)
      rw [putP_at as kvs _ j b _ hn hj hkj] at q
      cases q
      obtain ⟨x1, x2, f1, f2, f3⟩ := hat j b _ hj hkj
      exact ⟨by show 2 ≤ sizeLine; decide, [x1, x2], .cons f1 (.cons f2 .nil), ⟨_, f3, rfl, _, rfl⟩⟩
    · by_cases hb2 : b = L
      · rw [hb2] at q ⊢
        rw [eS] at q
        cases q
        refine ⟨by rw [List.length_map]; omega, acc.toList, c, by rw [hacc]; exact LiI.vals_refs as, ?_⟩
        rw [Array.toArray_toList]
        exact hS
      · rw [off b hb hb2] at q
        exact (I.hok b u q).stay (fun d v _ y => hk d v y) (fun d y => kp d _ y) fun d xs y => kp d _ y
def zipV : List V → List V → List (V × V)
  | x :: xs, y :: ys => (x, y) :: zipV xs ys
  | _, _ => []
theorem zipV_get : ∀ {xs ys : List V} {j : Nat} {p : V × V}, (zipV xs ys)[j]? = some p → xs[j]? = some p.1 ∧ ys[j]? = some p.2
  | [], _, j, p, h => by simp [zipV] at h
  | _ :: _, [], j, p, h => by simp [zipV] at h
  | x :: xs, y :: ys, 0, p, h => by simp [zipV] at h; subst h; exact ⟨rfl, rfl⟩
  | x :: xs, y :: ys, j + 1, p, h => by simpa using zipV_get (xs := xs) (ys := ys) (by simpa [zipV] using h)
theorem zipV_len : ∀ {xs ys : List V}, (zipV xs ys).length = min xs.length ys.length
  | [], _ => by simp [zipV]
  | _ :: _, [] => by simp [zipV]
  | x :: xs, y :: ys => by simp [zipV, zipV_len (xs := xs) (ys := ys)]
theorem sqB_at {t : Bool} {h h' : Heap} {l : Addr} {items : Array Value} (x : sqB t h l items) (k : ∀ b o, h.get? b = some o → h'.get? b = some o) : sqB t h' l items := by
  cases t
  · exact Heap.IsList.at x fun o e => k _ o e
  · exact Heap.IsTuple.at x fun o e => k _ o e
/-- list(zip(a, b)) -/
def tLz (K : PySem.W.Frag) (ta : TA) : TE := fun σ H Q => ta σ H fun vs H1 => ∃ t u a b xs ys, vs = [.ref a, .ref b] ∧ SqB t K H1 a xs ∧ SqB u K H1 b ys ∧ min xs.length ys.length ≤ sizeLine ∧
  ∀ (H' : Hp) (L : Addr) (as : List Addr), as.length = min xs.length ys.length → as.Nodup → H' = putP (upd H1 L (.lst (as.map V.ref))) as (zipV xs ys) → H1 L = none → (∀ t ∈ as, H1 t = none) → L ∉ as → Q (.ref L) H'
theorem pe_listZip {e e2 : Expr} {ta : TA} {p p2 pos zpos : Pos} (hc : X.calm = true) (hg : Gl X "list") (hm : X.mg "list" = none) (hv : bootBuiltins "list" = some (.type "list")) (hg2 : Gl X "zip") (hm2 : X.mg "zip" = none) (ha : PA X [e, e2] ta)
    (hs : starEach [.Call (.Name "zip" p2) [e, e2] [] zpos] X.env = (false, eval (.Call (.Name "zip" p2) [e, e2] [] zpos) X.env) :: starEach [] X.env := by rfl)
    (hs2 : starEach [e, e2] X.env = (false, eval e X.env) :: starEach [e2] X.env := by rfl) (hpl : (backTo zpos (starEach [e2] X.env)).any (·.1) = false := by rfl) :
    PE X (.Call (.Name "list" p) [.Call (.Name "zip" p2) [e, e2] [] zpos] [] pos) (tLz X.K ta) := by
  refine ⟨fun pins s σ H Q I h => ?_⟩
  refine wpAny_Call_Name_kw (ld_blt I hg hm hv ?_)
  refine PyProof.Rows.callWith_type1 ?_ hs rfl
  rw [hs]
  show wpAny _ _ (spliced ((false, eval (.Call (.Name "zip" p2) [e, e2] [] zpos) X.env) :: backTo pos (starEach [] X.env))) _ _ s
  refine Calls.spliced_cons ?_
  refine Call_ (ld_blt I hg2 hm2 PyProof.Rows.boot_zip (PyProof.Rows.callWith_type1 (thn (ha.run zpos pins s σ H _ I h) fun us s1 ⟨vs, H1, I1, r1, q1⟩ => ?_) hs2 hpl))
  obtain ⟨t, u, a, b, xs, ys, ex, hqx, hqy, hmin, q⟩ := q1
  subst ex
  cases r1 with
  | cons r rr =>
    cases rr with
    | cons r' rr =>
      cases rr
      cases r
      cases r'
      obtain ⟨its, rv, p1, l1⟩ := hqx.items I1
      obtain ⟨its2, rv2, p2', l2⟩ := hqy.items I1
      obtain ⟨o1, B1, b1⟩ := begB t a its.toArray
      obtain ⟨o2, B2, b2⟩ := begB u b its2.toArray
      refine zip_begins2 B1 B2 p1 p2' fun h' hz hTI hTO h1 h2 hsz hk => ?_
      refine Calls.spliced_nil ?_
      have I2 : Inv X pins σ H1 { s1 with heap := h' } := I1.kept (t' := s1.toks) hk
      have q1 : ∀ k, s1.heap.objs.size + k ≠ a := fun k => Nat.ne_of_gt (Nat.lt_of_lt_of_le l1 (Nat.le_add_right _ _))
      have q2 : ∀ k, s1.heap.objs.size + k ≠ b := fun k => Nat.ne_of_gt (Nat.lt_of_lt_of_le l2 (Nat.le_add_right _ _))
      have q3 := q1 0
      have q4 := q2 0
      rw [Nat.add_zero] at q3 q4
      have S2 : ZipSep2 (s1.heap.objs.size + 4) (s1.heap.objs.size + 2) (s1.heap.objs.size + 3) s1.heap.objs.size (s1.heap.objs.size + 1) [s1.heap.objs.size, a] [s1.heap.objs.size + 1, b] := by
        refine ⟨?_, ?_, ?_, ?_, ?_, ?_, ?_, ?_, ?_, ?_, ?_, ?_, ?_⟩
        all_goals (simp [q1, q2, q3, q4])
      have hlt : ∀ k, k < 5 → s1.heap.objs.size + k < h'.objs.size := fun k hk' => by
        have z4 := Heap.lt_size hz
        omega
      have ex1 : its.toArray.size = xs.length := by rw [rv.length]; simp
      have ex2 : its2.toArray.size = ys.length := by rw [rv2.length]; simp
      refine LZ.call (s := { s1 with heap := h' }) S2 (drawsB t (A := X.A.in1.in1.in1) (I1.ok.hd hc) s1.heap.objs.size a (Nat.ne_of_lt l1) its.toArray) (drawsB u (A := X.A.in1.in1.in1) (I1.ok.hd hc) (s1.heap.objs.size + 1) b (Nat.ne_of_lt (Nat.lt_succ_of_lt l2)) its2.toArray) (by rw [ex1, ex2]; exact hmin) hz hTI hTO ⟨b1 _ _ h1, ?_⟩ ⟨b2 _ _ h2, ?_⟩ ?_ ?_ fun h'' tk acc' c' as hk2 hL hP => ?_
      · exact sqB_at p1 hk
      · exact sqB_at p2' hk
      · intro c hc'
        rcases List.mem_cons.mp hc' with z | z
        · rw [z]; exact hlt 0 (by omega)
        · have : c = a := by simpa using z
          rw [this]; exact Nat.lt_trans l1 (hlt 0 (by omega))
      · intro c hc'
        rcases List.mem_cons.mp hc' with z | z
        · rw [z]; exact hlt 1 (by omega)
        · have : c = b := by simpa using z
          rw [this]; exact Nat.lt_trans l2 (hlt 0 (by omega))
      · rw [ex1, ex2] at hP
        have hlz : as.length = (zipV xs ys).length := by rw [hP.len, zipV_len]
        have keep2 : ∀ c o, s1.heap.get? c = some o → h''.get? c = some o := fun c o e => by
          have z := Heap.lt_size e
          exact hk2 c o (Nat.ne_of_lt (Nat.lt_of_lt_of_le z (Nat.le_add_right _ _))) (Nat.ne_of_lt (Nat.lt_of_lt_of_le z (Nat.le_add_right _ _))) (Nat.ne_of_lt z) (Nat.ne_of_lt (Nat.lt_of_lt_of_le z (Nat.le_add_right _ _))) (hk c o e)
        have hLs : s1.heap.objs.size ≤ h'.objs.size := Nat.le_of_lt (hlt 0 (by omega))
        obtain ⟨J, _, z2, z3, _⟩ := pairs_laid (X := X) (h' := h'') (tk := tk) (L := h'.objs.size) (kvs := zipV xs ys) (us := []) (vs := []) I1 hlz (by rw [zipV_len]; exact hmin) keep2 hLs hL hP.acc hP.nd (fun p hp => ⟨Nat.le_trans hLs (hP.rng p hp).1, (hP.rng p hp).2.2⟩) (fun j t pr hj hkj => by
          obtain ⟨x1, x2, y1, y2, y3⟩ := hP.at' j t hj
          obtain ⟨w1, w2⟩ := zipV_get hkj
          obtain ⟨v1, hu1, ru1⟩ := rv.get w1
          obtain ⟨v2, hu2, ru2⟩ := rv2.get w2
          have e1 : v1 = x1 := by
            have q : its[j]? = some x1 := by simpa using y1
            rw [hu1] at q; exact Option.some.inj q
          have e2 : v2 = x2 := by
            have q : its2[j]? = some x2 := by simpa using y2
            rw [hu2] at q; exact Option.some.inj q
          subst e1 e2
          exact ⟨v1, v2, ru1, ru2, y3⟩)
        exact ⟨.ref h'.objs.size, _, J, rfl, q _ _ as hP.len hP.nd rfl z2 z3 fun z => (hP.rng _ z).2.2 rfl⟩
end
end Mir

/-! Mir24: list(zip(a, b)), dict(pairs), list.index, tuples with cells that are handed back: by data. -/
namespace Mir
open PySem PySem.Spec PyProof.Rows L2 RZ
theorem putP_ext {G : Gc} {m : List Addr} : ∀ (as : List Addr) (kvs : List (V × V)) (H : Hp), as.Nodup → (∀ t ∈ as, H t = none) → Ext G m H m (putP H as kvs)
  | [], _, _, _, _ => Ext.refl
  | _ :: _, [], _, _, _ => Ext.refl
  | a :: as, p :: kvs, H, hn, hf => (Ext.new (hf a List.mem_cons_self)).trans (putP_ext as kvs (upd H a (.tup [p.1, p.2])) (List.nodup_cons.mp hn).2 fun t ht => by
      rw [upd_ne (show t ≠ a from fun z => (List.nodup_cons.mp hn).1 (z ▸ ht))]
      exact hf t (List.mem_cons_of_mem _ ht))
theorem pairs_rvs {G : Gc} {e : List Addr} {H : Hp} : ∀ {ds es : List D} {xs ys : List V} {as : List Addr}, RVs G e H ds xs → RVs G e H es ys → as.length = (zipV xs ys).length → (∀ (j : Nat) (t : Addr) (p : V × V), as[j]? = some t → (zipV xs ys)[j]? = some p → H t = some (.tup [p.1, p.2])) → RVs G e H (pairs ds es) (as.map V.ref)
  | [], es, [], ys, as, .nil, _, hl, _ => by
    have : as = [] := by
      cases as with
      | nil => rfl
      | cons _ _ => simp [zipV] at hl
    subst this
    show RVs G e H (pairs [] es) []
    cases es <;> exact .nil
  | d :: ds, [], _, _, as, .cons r t, .nil, hl, _ => by
    have : as = [] := by
      cases as with
      | nil => rfl
      | cons _ _ => simp [zipV] at hl
    subst this
    simp only [pairs, List.map_nil]
    exact .nil
  | d :: ds, e1 :: es, _, _, as, .cons r t, .cons r' t', hl, h => by
    cases as with
    | nil => simp [zipV] at hl
    | cons a as =>
      refine .cons (.tup (.inl (.inl (h 0 a _ rfl rfl))) (.cons r (.cons r' .nil))) (pairs_rvs t t' (by simpa [zipV] using hl) fun j u p h1 h2 => h (j + 1) u p (by simpa using h1) (by simpa [zipV] using h2))
def lzpM (f g : ME) : ME := fun ρ S => (argsM [f, g] ρ S).bind fun us S1 => match us with
  | [u, v] => match seqU u, seqU v with
    | some xs, some ys => if (pairs xs ys).length ≤ big then .ok (.d (.lst (pairs xs ys))) S1 else .un
    | _, _ => .un
  | _ => .un
theorem pairs_len : ∀ {ds es : List D}, (pairs ds es).length = min ds.length es.length
  | [], _ => by simp [pairs]
  | _ :: _, [] => by simp [pairs]
  | _ :: ds, _ :: es => by simp [pairs, pairs_len (ds := ds) (es := es)]
section
variable {X : Cx} {T : List (Addr × Str)} {W : WX} {e e2 : Expr} {f g : ME} {p p2 pos zpos : Pos}
theorem e_lzip (hc : X.calm = true) (hm : X.mg "list" = none) (hv : bootBuiltins "list" = some (.type "list")) (hm2 : X.mg "zip" = none) (ha : PA X [e, e2] (tA (gOf X T) W (argsM [f, g]))) (hg : Gl X "list" := by rfl) (hg2 : Gl X "zip" := by rfl)
    (hs : starEach [.Call (.Name "zip" p2) [e, e2] [] zpos] X.env = (false, eval (.Call (.Name "zip" p2) [e, e2] [] zpos) X.env) :: starEach [] X.env := by rfl)
    (hs2 : starEach [e, e2] X.env = (false, eval e X.env) :: starEach [e2] X.env := by rfl) (hpl : (backTo zpos (starEach [e2] X.env)).any (·.1) = false := by rfl) :
    PE X (.Call (.Name "list" p) [.Call (.Name "zip" p2) [e, e2] [] zpos] [] pos) (tE (gOf X T) W (lzpM f g)) :=
  pe_mono (pe_listZip hc hg hm hv hg2 hm2 ha hs hs2 hpl) fun σ H Q h => by
    obtain ⟨x, m, ρ, S, p, h⟩ := h
    refine ⟨x, m, ρ, S, p, (Post.bind h).mono fun us S1 m1 H1 E1 R1 ⟨_, _, h1⟩ vs rvs => ?_⟩
    split at h1
    · split at h1
      · rename_i xs ys q1 q2
        split at h1
        · rename_i hlen
          cases rvs with
          | cons r t => cases t with
            | cons r' t =>
              cases t
              obtain ⟨t, a, zs, rfl, s1, s2⟩ := seqU_ok r q1
              obtain ⟨t', b, zs', rfl, s3, s4⟩ := seqU_ok r' q2
              rw [pairs_len] at hlen
              refine ⟨t, t', a, b, zs, zs', rfl, s1.b, s3.b, by rw [← s2.len, ← s4.len]; exact big_ok hlen, fun H' L as hl hn he fL fas nL => ?_⟩
              subst he
              have p1 := p.ext E1 R1
              have E2 : Ext (gOf X T) m1 H1 m1 (upd H1 L (.lst (as.map V.ref))) := Ext.new fL
              have E3 : Ext (gOf X T) m1 (upd H1 L (.lst (as.map V.ref))) m1 (putP (upd H1 L (.lst (as.map V.ref))) as (zipV zs zs')) := putP_ext as _ _ hn fun t ht => by
                rw [upd_ne (show t ≠ L from fun z => nL (z ▸ ht))]; exact fas t ht
              have E4 := E2.trans E3
              have live : ∀ a ∈ x ++ m1, a ∉ as ∧ a ≠ L := fun a ha => by
                obtain ⟨o, ho⟩ := p1.trk a ha
                exact ⟨fun z => (by rw [fas a z] at ho; cases ho), fun z => (by rw [z, fL] at ho; cases ho)⟩
              have R4 : RS (gOf X T) (x ++ m1) m1 (putP (upd H1 L (.lst (as.map V.ref))) as (zipV zs zs')) S1 := R1.stay E4 fun a ha => by
                obtain ⟨z1, z2⟩ := live a (List.mem_append_right _ ha)
                rw [putP_off as _ _ z1, upd_ne z2]
              refine h1 m1 _ E4 R4 _ (.d (.lst ?_ (fun z => (live L z).2 rfl) (pairs_rvs (s2.keep E4.kp) (s4.keep E4.kp) (by rw [hl, zipV_len]) fun j u p h1 h2 => putP_at as _ _ j u p hn h1 h2)))
              rw [putP_off as _ _ nL, upd_same]
        · exact h1.elim
      · exact h1.elim
    · exact h1.elim
/-! ### a tuple with cells that is handed back -/
def wOf : List U → Option (List (D ⊕ Nat))
  | [] => some []
  | .d x :: us => (wOf us).map (.inl x :: ·)
  | .c i :: us => (wOf us).map (.inr i :: ·)
  | .t _ :: _ => none
def tupC (fs : List ME) : ME := fun ρ S => (argsM fs ρ S).bind fun us S' => match wOf us with
  | some ws => .ok (.t ws) S'
  | none => .un
theorem wOf_ok {G : Gc} {e m : List Addr} {H : Hp} : ∀ {us : List U} {vs : List V} {ws : List (D ⊕ Nat)}, RUs G e m H us vs → wOf us = some ws → RW G e m H ws vs
  | _, _, _, .nil, h => by cases h; exact .nil
  | _, _, _, .cons (.d r) t, h => by
    simp only [wOf, Option.map_eq_some_iff] at h
    obtain ⟨ws, h1, rfl⟩ := h
    exact .d r (wOf_ok t h1)
  | _, _, _, .cons (.c r) t, h => by
    simp only [wOf, Option.map_eq_some_iff] at h
    obtain ⟨ws, h1, rfl⟩ := h
    exact .c r (wOf_ok t h1)
  | _, _, _, .cons (.t (us := us) _ _) t, h => by simp [wOf] at h
theorem e_tupC {k} {es : List Expr} {fs : List ME} (h : PA X es (tA (gOf X T) W (argsM fs))) (hl : Nat.ble fs.length 1000 = true := by rfl) : PE X (.Tuple es k pos) (tE (gOf X T) W (tupC fs)) := pe_mono (pe_tup h) fun σ H Q h => by
  obtain ⟨x, m, ρ, S, p, h⟩ := h
  cases q : argsM fs ρ S with
  | ok us S' =>
    refine ⟨x, m, ρ, S, p, ?_⟩
    rw [q]
    intro m1 H1 E1 R1 vs rvs
    have hn : vs.length = fs.length := by rw [← RUs.length rvs, argsM_len q]
    refine ⟨Nat.le_of_lt (small1000 (by rw [hn]; exact Nat.le_of_ble_eq_true hl)), fun p' np => ?_⟩
    simp only [tupC, q, O.bind] at h
    split at h
    · rename_i ds hd
      have E2 : Ext (gOf X T) m1 H1 m1 (upd H1 p' (.tup vs)) := Ext.new np
      exact h m1 _ (E1.trans E2) (R1.new np) _ (.t (.inl (.inl upd_same)) ((wOf_ok rvs hd).ext E2))
    · exact h.elim
  | ex e S' =>
    refine ⟨x, m, ρ, S, p, ?_⟩
    simp only [tupC, q, O.bind] at h ⊢
    exact h
  | un =>
    simp only [tupC, q, O.bind] at h
    exact h.elim
/-! ### xs.index(y), xs a list -/
def lixG : List D → D → Option D
  | [], _ => none
  | x :: xs, y => if eqD x y = true then some (.int 0) else match lixG xs y with
    | some (.int i) => some (.int (i + 1))
    | _ => none
theorem lixG_ok : ∀ {xs : List D} {y z : D}, lixG xs y = some z → ∃ (j : Nat) (w : D), z = .int j ∧ xs[j]? = some w ∧ eqD w y = true ∧ ∀ (m : Nat) (w' : D), m < j → xs[m]? = some w' → eqD w' y = false
  | [], _, _, h => by simp [lixG] at h
  | x :: xs, y, z, h => by
    unfold lixG at h
    split at h
    · rename_i e
      cases h
      exact ⟨0, x, rfl, rfl, e, fun m _ hm _ => by omega⟩
    · rename_i e
      split at h
      · rename_i i hi
        cases h
        obtain ⟨j, w, h1, h2, h3, h4⟩ := lixG_ok hi
        cases h1
        refine ⟨j + 1, w, by simp, by simpa using h2, h3, fun m w' hm hw => ?_⟩
        cases m with
        | zero => simp at hw; subst hw; exact Bool.eq_false_iff.mpr e
        | succ m => exact h4 m w' (by omega) (by simpa using hw)
      · cases h
def isLsU (S : Sto) : U → Bool
  | .d (.lst _) => true
  | .c i => isLst S[i]?
  | _ => false
def lixM (fo fe : ME) : ME := fun ρ S => (fo ρ S).bind fun uo S1 => if isLsU S1 uo = true then (fe ρ S1).bind fun ue S2 => match rd S2 uo, rd S2 ue with
  | some (.lst xs), some y => if sh (.lst xs) && sh y then match lixG xs y with
    | some z => .ok (.d z) S2
    | none => .un
    else .un
  | _, _ => .un
  else .un
theorem Ps_get : ∀ {xs : List D} {j : Nat}, (Ps xs)[j]? = xs[j]?.map D.P
  | [], j => by simp [Ps]
  | x :: xs, 0 => by simp [Ps]
  | x :: xs, j + 1 => by simpa [Ps] using Ps_get (xs := xs) (j := j)
theorem e_lix {o e : Expr} {fo fv : ME} {apos p2 : Pos} (hu : X.A.units + 65 < cLine) (ho : PE X o (tE (gOf X T) W fo)) (he : PE X e (tE (gOf X T) W fv)) (hbase : attributeBase o "index" X.env (eval o X.env) = eval o X.env := by rfl)
    (hfew : ((backTo p2 (starEach [e] X.env)).all (fun x => !x.1) && (backToKw p2 (keywordEach [] X.env)).all (fun x => x.1.isSome)
      && decide ([e].length + ([] : List Keyword).length + (if ([] : List Keyword).isEmpty then 0 else 1) < 30)) = true := by rfl)
    (hline : (apos.endLine == p2.line) = true := by rfl) (hs : starEach [e] X.env = (false, eval e X.env) :: starEach [] X.env := by rfl) (hpl : (backTo p2 (starEach [] X.env)).any (·.1) = false := by rfl) :
    PE X (.Call (.Attribute o "index" apos) [e] [] p2) (tE (gOf X T) W (lixM fo fv)) :=
  pe_mono (pe_bm PySem.F.plainAttrs_list PySem.F.slot_list_index PySem.F.type_list_index (mt_indexD hu) ho (pa_cons he pa_nil hs) hbase hfew hline hs hpl) fun σ H Q h => by
    obtain ⟨x, m, ρ, S, p, h⟩ := h
    refine ⟨x, m, ρ, S, p, (Post.bind h).mono fun uo S1 m1 H1 E1 R1 ⟨_, _, h1⟩ ov ro => ?_⟩
    have p1 := p.ext E1 R1
    split at h1
    case isFalse => exact h1.elim
    case isTrue hl =>
    have hty : tyV X.K "list" ov H1 := by
      cases uo with
      | t _ => simp [isLsU] at hl
      | d d => cases d with
        | lst xs => cases ro with
          | d ro => cases ro with
            | lst h _ _ => exact .inl ⟨rfl, _, .of h⟩
        | _ => simp [isLsU] at hl
      | c j => cases ro with
        | @c _ a ha' =>
          have hjl : j < S1.length := by rw [← R1.len]; exact (List.getElem?_eq_some_iff.mp ha').1
          cases hc : S1[j]? with
          | none => rw [List.getElem?_eq_none_iff] at hc; omega
          | some c =>
            simp only [isLsU] at hl
            rw [hc] at hl
            obtain ⟨ob, o1, o2⟩ := R1.at' j a c ha' hc
            cases o2 with
            | dic _ _ => simp [isLst] at hl
            | ins _ _ _ => simp [isLst] at hl
            | @lst vs _ hvs => exact .inl ⟨rfl, vs, .of o1⟩
    refine ⟨hty, x, m1, ρ, S1, p1, (Post.bind h1).mono fun ue S2 m2 H2 E2 R2 ⟨_, _, h2⟩ v rv => ?_⟩
    have ro2 := ro.ext E2
    split at h2
    · rename_i xs y q1 q2
      split at h2
      · rename_i hsh
        split at h2
        · rename_i z hz
          obtain ⟨s1, s2⟩ := Bool.and_eq_true_iff.mp hsh
          obtain ⟨j, w, e1, e2, e3, e4⟩ := lixG_ok hz
          have r1 := ro2.rt R2 q1
          have r2 := rv.rt R2 q2
          obtain ⟨a, ws, rfl, g1, g2⟩ := r1.lst'
          subst e1
          refine ⟨a, v, y.P, Ps xs, j, w.P, rfl, rfl, r1.dp s1, r2.dp s2, s1, s2, by rw [Ps_get, e2]; rfl, e3, fun k z' hk hz' => ?_, h2 m2 H2 Ext.refl R2 _ (.d (.int _))⟩
          rw [Ps_get] at hz'
          obtain ⟨w', hw', rfl⟩ := Option.map_eq_some_iff.mp hz'
          exact e4 k w' hk hw'
        · exact h2.elim
      · exact h2.elim
    · exact h2.elim
end
end Mir

/-! Mir25: dict(pairs), the keys of which differ. -/
namespace Mir
open PySem PySem.Spec PyProof.Rows L2 RZ
def keyD : D → Option Key
  | .int i => some (.inl i)
  | .str x => some (.inr x)
  | _ => none
def prsP : List D → Option (List Key × List D)
  | [] => some ([], [])
  | .tup [k, v] :: ds => match keyD k, prsP ds with
    | some k, some r => some (k :: r.1, v :: r.2)
    | _, _ => none
  | _ => none
def keyT : D → Option NestedKey
  | .tup xs => match toN (.tup xs) with
    | some k => if k.depth ≤ 8 then some k else none
    | none => none
  | _ => none
def prsT : List D → Option (List NestedKey × List D)
  | [] => some ([], [])
  | .tup [k, v] :: ds => match keyT k, prsT ds with
    | some k, some r => some (k :: r.1, v :: r.2)
    | _, _ => none
  | _ => none
def dicP (ds : List D) : Option D := match prsP ds with
  | some r => if r.1.Nodup ∧ ds.length ≤ big then some (.dic false (r.1.map kN) r.2) else none
  | none => none
def dicT (ds : List D) : Option D := match prsT ds with
  | some r => if r.1.Nodup ∧ ds.length ≤ big then some (.dic true r.1 r.2) else none
  | none => none
def dicG : List D → Option D
  | [.lst ds] => match dicP ds with
    | some z => some z
    | none => dicT ds
  | _ => none
theorem mergeK_app : ∀ (more acc : List (Key × V)), (acc.map (·.1) ++ more.map (·.1)).Nodup → mergeK acc more = acc ++ more
  | [], acc, _ => by simp [mergeK]
  | p :: more, acc, h => by
    have hp : (acc.any fun kv => decide (kv.1 = p.1)) = false := by
      rw [List.any_eq_false]
      intro x hx q
      have e : x.1 = p.1 := by simpa using q
      have := List.nodup_append.mp h
      exact this.2.2 x.1 (List.mem_map_of_mem hx) p.1 (by simp) e
    show mergeK (putK acc p.1 p.2) more = _
    rw [putK, if_neg (by rw [hp]; exact Bool.false_ne_true), mergeK_app more _ (by simpa using h)]
    simp
theorem storedAllH_app : ∀ (more acc : List (NestedKey × Addr × Value)), (acc.map (·.1) ++ more.map (·.1)).Nodup → storedAllH acc more = acc ++ more
  | [], acc, _ => by simp [storedAllH]
  | p :: more, acc, h => by
    have hp : atKey acc p.1 = none := by
      unfold atKey
      rw [Option.map_eq_none_iff, List.find?_eq_none]
      intro x hx q
      have e : x.1 = p.1 := by simpa using q
      have := List.nodup_append.mp h
      exact this.2.2 x.1 (List.mem_map_of_mem hx) p.1 (by simp) e
    show storedAllH (storedH acc p.1 p.2.1 p.2.2) more = _
    rw [storedH_new hp, storedAllH_app more _ (by simpa using h)]
    simp
section
variable {G : Gc} {e : List Addr} {H : Hp}
theorem prsP_ok : ∀ {ds : List D} {xs : List V} {r : List Key × List D}, RVs G e H ds xs → prsP ds = some r →
    ∃ (ps : List Addr) (vs : List V), xs = ps.map V.ref ∧ r.1.length = vs.length ∧ Paired (fun p (kv : Key × V) => SqT G.K H p [kV kv.1, kv.2]) ps (r.1.zip vs) ∧ RVs G e H r.2 vs
  | [], _, r, .nil, h => by cases h; exact ⟨[], [], rfl, rfl, .nil, .nil⟩
  | d :: ds, _, r, .cons r1 t, h => by
    unfold prsP at h
    split at h
    · rename_i q; cases q
    · rename_i k v ds' q
      cases q
      split at h
      · rename_i kk rr h1 h2
        cases h
        obtain ⟨ps, vs, e1, e2, e3, e4⟩ := prsP_ok t h2
        cases r1 with
        | @tup a ys _ s1 s2 =>
          cases s2 with
          | cons u1 u2 => cases u2 with
            | cons u2 u3 =>
              cases u3
              rename_i vk vv
              have ek : vk = kV kk := by
                unfold keyD at h1
                split at h1
                · cases h1; cases u1; rfl
                · cases h1; cases u1; rfl
                · cases h1
              subst ek e1
              exact ⟨a :: ps, vv :: vs, rfl, by simp [e2], .cons s1 e3, .cons u2 e4⟩
      · cases h
    · cases h
theorem prsT_ok : ∀ {ds : List D} {xs : List V} {r : List NestedKey × List D}, RVs G e H ds xs → prsT ds = some r →
    ∃ (ps : List Addr) (ts : List (NestedKey × Addr × V)), xs = ps.map V.ref ∧ ts.map (·.1) = r.1 ∧ Paired (fun p (t : NestedKey × Addr × V) => SqT G.K H p [.ref t.2.1, t.2.2]) ps ts ∧ RVs G e H r.2 (ts.map (·.2.2)) ∧ ∀ t ∈ ts, RN G H t.1 (.ref t.2.1) ∧ t.1.depth ≤ 8
  | [], _, r, .nil, h => by cases h; exact ⟨[], [], rfl, rfl, .nil, .nil, fun _ z => by cases z⟩
  | d :: ds, _, r, .cons r1 t, h => by
    unfold prsT at h
    split at h
    · rename_i q; cases q
    · rename_i k v ds' q
      cases q
      split at h
      · rename_i kk rr h1 h2
        cases h
        obtain ⟨ps, ts, e1, e2, e3, e4, e5⟩ := prsT_ok t h2
        cases r1 with
        | @tup a ys _ s1 s2 =>
          cases s2 with
          | cons u1 u2 => cases u2 with
            | cons u2 u3 =>
              cases u3
              rename_i vk vv
              unfold keyT at h1
              split at h1
              · rename_i xs
                split at h1
                · rename_i k2 hk2
                  split at h1
                  · rename_i hd
                    cases h1
                    have rn := u1.rn hk2
                    cases u1 with
                    | @tup b zs _ w1 w2 =>
                      subst e1
                      exact ⟨a :: ps, (kk, b, vv) :: ts, rfl, by simp [e2], .cons s1 e3, .cons u2 e4, fun t ht => by
                        rcases List.mem_cons.mp ht with z | z
                        · subst z; exact ⟨rn, hd⟩
                        · exact e5 t z⟩
                  · cases h1
                · cases h1
              · cases h1
      · cases h
    · cases h
end
section
variable {X : Cx} {T : List (Addr × Str)}
theorem Paired.len {α β : Type} {F : α → β → Prop} {xs : List α} {ys : List β} (h : Paired F xs ys) : xs.length = ys.length := by
  induction h with
  | nil => rfl
  | cons _ _ ih => simp [ih]
theorem PT3_keys : ∀ {ts : List (NestedKey × Addr × V)} {us : List (NestedKey × Addr × Value)}, PT3 ts us → us.map (·.1) = ts.map (·.1)
  | _, _, .nil => rfl
  | _, _, .cons h t => by simp [PT3_keys t, h.1]
/-- the tuples of the argument, raw -/
theorem rawT {pins : List (Addr × Obj)} {s : Shared} {σ : St} {H : Hp} (I : Inv X pins σ H s) : ∀ {ps : List Addr} {ts : List (NestedKey × Addr × V)}, Paired (fun p (t : NestedKey × Addr × V) => SqT X.K H p [.ref t.2.1, t.2.2]) ps ts →
    ∃ us : List (NestedKey × Addr × Value), PT3 ts us ∧ us.length = ps.length ∧ ∀ (j : Nat) (q : NestedKey × Addr × Value), us[j]? = some q → ∃ p, ps[j]? = some p ∧ IsTup s.heap p #[.ref q.2.1, q.2.2]
  | _, _, .nil => ⟨[], .nil, rfl, fun j q e => by simp at e⟩
  | _, _, .cons (a := p) (b := t) h r => by
    obtain ⟨us, g1, g2, g3⟩ := rawT I r
    obtain ⟨its, rv, ht, _⟩ := I.tuple h
    obtain ⟨u, y, ei, ru, ry⟩ := vals2 rv
    subst ei
    cases ru
    refine ⟨(t.1, t.2.1, y) :: us, .cons ⟨rfl, rfl, ry⟩ g1, by simp [g2], fun j q e => ?_⟩
    cases j with
    | zero => cases e; exact ⟨p, rfl, ht⟩
    | succ j => simpa using g3 j q (by simpa using e)
theorem c_dict (hu : X.A.units + 65 < cLine) (hcalm : X.calm = true) : CallR X (.type "dict") (rC (gOf X T) dicG) := by
  intro pins s σ H vs us Q I rs ⟨ds, z, e, m, hg, tr, r, q⟩
  unfold dicG at hg
  split at hg
  · rename_i ds
    obtain ⟨v, rfl, r1⟩ := r.one
    obtain ⟨a, xs, rfl, g1, g2⟩ := r1.lst'
    have plain : ∀ z, dicP ds = some z → (∀ H' w, Ext (gOf X T) m H m H' → (∀ a ∈ m, H a ≠ none → H' a = H a) → RV (gOf X T) e H' z w → Q w H') → wpAny (model X.prog X.w) X.A (call (.type "dict") us) (EP X pins σ Q) X.xe s := by
      intro z hz q
      unfold dicP at hz
      split at hz
      · rename_i rr hr
        split at hz
        · rename_i hn
          cases hz
          obtain ⟨ps, ws, e1, e2, e3, e4⟩ := prsP_ok g2 hr
          subst e1
          refine call_dictP hcalm pins s σ H _ us Q I rs ⟨a, ps, rr.1.zip ws, rfl, .inl (.inl g1), e3, fun p np => ?_⟩
          have hk : mergeK [] (rr.1.zip ws) = rr.1.zip ws := by
            rw [mergeK_app _ [] (by simpa [List.map_fst_zip (Nat.le_of_eq e2)] using hn.1)]
            rfl
          rw [hk]
          exact q _ _ (Ext.new np) (newKeep np) (RV.newDic e4 (.k rr.1 ws e2) np tr)
        · cases hz
      · cases hz
    split at hg
    · rename_i z' hz
      cases hg
      exact plain _ hz q
    · unfold dicT at hg
      split at hg
      · rename_i rr hr
        split at hg
        · rename_i hn
          cases hg
          obtain ⟨ps, ts, e1, e2, e3, e4, e5⟩ := prsT_ok g2 hr
          subst e1
          obtain ⟨u, eu, rx⟩ := vals1 rs
          subst eu
          cases rx
          obtain ⟨its, rv, pl, hzl⟩ := I.list (X := X) (H := H) (a := a) (xs := ps.map V.ref) (.inl (.inl g1))
          have ei := refs_at rv
          subst ei
          obtain ⟨us, w1, w2, w3⟩ := rawT I e3
          obtain ⟨o, n, ho, hc, hd, hdat⟩ := pl
          have hl : us.length = ts.length := (Paired.len w1).symm
          have hkeys : us.map (·.1) = ts.map (·.1) := PT3_keys w1
          have hnd : (us.map (·.1)).Nodup := by rw [hkeys, e2]; exact hn.1
          have hdl : ts.length ≤ big := by
            have h1 : ts.length = ps.length := (Paired.len e3).symm
            have h2 : ds.length = ps.length := by rw [g2.len, List.length_map]
            omega
          have hst : ∀ h2 : Heap, (∀ b o, s.heap.get? b = some o → h2.get? b = some o) → ∀ x ∈ us, (nestedKind X.prog X.w).is h2 x.1 x.2.1 := by
            intro h2 hk
            clear hnd hkeys hl w2 w3 e4 e2 hdl e3
            induction w1 with
            | nil => intro x hx; cases hx
            | @cons t u ts us ht _ ih =>
              intro x hx
              rcases List.mem_cons.mp hx with z | z
              · subst z
                obtain ⟨y1, y2⟩ := e5 t List.mem_cons_self
                rw [← ht.1, ← ht.2.1]
                exact nestedKind_stays.stays (fun b o vs n e _ => hk b o e) ⟨RN.nested I _ _ _ y1 rfl, y2⟩
              · exact ih (fun t ht => e5 t (List.mem_cons_of_mem _ ht)) x z
          have hTs : PairItems s.heap (ps.map Value.ref).toArray (fun j => ps.getD j 0) (us.map fun t => (Value.ref t.2.1, t.2.2)) := by
            refine ⟨by simp [w2], fun j k v hj => ?_⟩
            rw [List.getElem?_map, Option.map_eq_some_iff] at hj
            obtain ⟨t, h1, h2⟩ := hj
            cases h2
            obtain ⟨p, q1, q2⟩ := w3 j t h1
            have e : ps.getD j 0 = p := by rw [List.getD_eq_getElem?_getD, q1]; rfl
            show (List.map Value.ref ps).toArray[j]? = some (Value.ref (ps.getD j 0)) ∧ PairAt s.heap (ps.getD j 0) _ _
            rw [e]
            refine ⟨by simp [q1], ?_⟩
            obtain ⟨o', ho', hc', n', hd'⟩ := q2
            exact .inl ⟨o', ho', hc', n', hd'⟩
          refine call_dict_pairsH (knd := nestedKind X.prog X.w) (ps := us) (PairArg.list a (ps.map Value.ref).toArray (fun j => ps.getD j 0) (us.map fun t => (Value.ref t.2.1, t.2.2))) (I.ok.hd hcalm) (show X.A.in1.in1.units + 8 < cLine from by show X.A.units + 1 + 1 + 8 < cLine; omega) ⟨⟨o, n, ho, hc, hd, hdat⟩, hTs⟩ ⟨by simp, fun i key v hr => ?_⟩ (fun h2 hk => hst h2 fun b o e => hk b o (Nat.ne_of_lt (Heap.lt_size e)) (fun z => by cases z) e) (by rw [List.length_map, hl]; exact big_ok hdl) fun h' tk hd' k => ?_
          · have hr' : (us.map fun t => (Value.ref t.2.1, t.2.2))[i]? = some (key, v) := hr
            rw [List.getElem?_map, Option.map_eq_some_iff] at hr'
            obtain ⟨t, h1, h2⟩ := hr'
            cases h2
            exact ⟨t.1, t.2.1, h1, rfl⟩
          · have hm : (s.heap.objs.size == sysModules) = false := beq_eq_false_iff_ne.mpr (Nat.ne_of_gt I.big)
            rw [storedAllH_app us [] (by simpa using hnd), List.nil_append] at hd'
            obtain ⟨o2, es, ep, y1, y2, y3, y4, y5, y6⟩ := hd'
            have np : H s.heap.objs.size = none := I.hok.fresh (Nat.le_refl _)
            have k2 : ∀ b u, s.heap.get? b = some u → h'.get? b = some u := fun b u e => k b u (fun z => by cases z) e
            have I' : Inv X pins σ (upd H s.heap.objs.size (dicN X.prog X.w s.heap.objs.size ts)) { s with heap := h', toks := tk } := by
              refine I.laid (t' := tk) k2 (Nat.le_refl _) ⟨⟨Nat.le_trans hdl (big_ok (Nat.le_refl _)), hm, us, w1, o2, es, ep, y1, y2, y3, y4, y6⟩, ⟨o2, y1⟩, ?_⟩
              rintro g1 g2 ⟨q1, q2, us', q3, o', es', ep', q4, q5⟩ kk
              exact ⟨q1, q2, us', q3, o', es', ep', kk _ q4, q5⟩
            refine ⟨.ref s.heap.objs.size, _, I', rfl, q _ _ (Ext.new np) (newKeep np) ?_⟩
            have kp : ∀ (aa : Addr) (yy : List V), SqT X.K H aa yy → SqT X.K (upd H s.heap.objs.size (dicN X.prog X.w s.heap.objs.size ts)) aa yy := fun aa yy h => SqT.ext (G := gOf X T) (m := m) (m' := m) (Ext.new np) h
            have rd := RD.n (G := gOf X T) (H := upd H s.heap.objs.size (dicN X.prog X.w s.heap.objs.size ts)) (a := s.heap.objs.size) ts fun t ht => ⟨(e5 t ht).1.ext kp, (e5 t ht).2⟩
            rw [e2] at rd
            have rd0 := RD.n (G := gOf X T) (H := H) (a := s.heap.objs.size) ts e5
            rw [e2] at rd0
            exact RV.newDic e4 rd0 np tr
        · cases hg
      · cases hg
  · cases hg
end
end Mir

/-! Mir26: {k: v, ..} with written texts as keys, as a new cell. -/
namespace Mir
open PySem PySem.Spec PyProof.Rows L2 HT
section
variable {X : Cx} {T : List (Addr × Str)} {W : WX} {pos : Pos}
def nddM (ks : List Str) (fs : List ME) : ME := fun ρ S => match argsM fs ρ S with
  | .ok us S' => match pures us with
    | some ds => .ok (.c S'.length) (S' ++ [.dic false (ks.map .text) ds])
    | none => .un
  | _ => .un
theorem RS.push {G : Gc} {x m : List Addr} {H : Hp} {S : Sto} {p : Addr} {c : Cell} {o : HO} (r : RS G (x ++ (m ++ [p])) m H S) (np : p ∉ m) (hp : H p = some o) (hc : RC G (x ++ (m ++ [p])) H p c o) : RS G (x ++ (m ++ [p])) (m ++ [p]) H (S ++ [c]) := by
  refine ⟨by simp [r.len], ?_, fun b hb => List.mem_append_right _ hb, fun i a c' h1 h2 => ?_⟩
  · exact List.nodup_append.mpr ⟨r.nd, by simp, fun a ha b hb => by
      have : b = p := by simpa using hb
      rw [this]
      exact fun z => np (z ▸ ha)⟩
  · by_cases hi : i < m.length
    · rw [List.getElem?_append_left hi] at h1
      rw [List.getElem?_append_left (by rw [← r.len]; exact hi)] at h2
      exact r.at' i a c' h1 h2
    · have hi2 : i = m.length := by
        have := (List.getElem?_eq_some_iff.mp h1).1
        simp at this
        omega
      subst hi2
      simp at h1
      rw [r.len] at h2
      simp at h2
      subst h1 h2
      exact ⟨o, hp, hc⟩
theorem e_ndd {keys : List (Option Expr)} {values : List Expr} {ks : List Str} {fs : List ME} (h : MPs X T W pos keys values ks fs) (hk : ks.Nodup := by decide +kernel) (hl : ks.length = fs.length := by rfl) (h15 : Nat.ble ks.length 15 = true := by rfl)
    (hall : keys.all (·.isSome) = true := by rfl) (hlen : keys.length = values.length := by rfl) (h0 : keys ≠ [] := by simp) (hk15 : keys.length ≤ 15 := by decide) : PE X (.Dict keys values pos) (tE (gOf X T) W (nddM ks fs)) := pe_mono (pe_disp h hall hlen h0 hk15) fun σ H Q h => by
  obtain ⟨y, m, ρ, S, q, h⟩ := h
  intro p np
  have hide : Keep (gOf X T) (y ++ m) H (p :: (y ++ m)) (upd H p (.dK [])) := Keep.hide np
  have p0 : Rp (gOf X T) (p :: y) m (upd H p (.dK [])) ρ S σ := ⟨q.env.keep hide, q.sto.keep hide (fun b hb => List.mem_cons_of_mem _ (List.mem_append_right _ hb)) (fun a ha => by
      obtain ⟨u, z⟩ := q.sto.live ha
      rw [upd_ne (ne_of_none z np)]) (fun b c z => by rw [upd_ne (ne_of_none z np)]; exact z), fun b hb => by
        rcases List.mem_cons.mp hb with z | z
        · rw [z]; exact ⟨_, upd_same, fun ps z => by cases z⟩
        · obtain ⟨u, w, wn⟩ := q.ex b z
          exact ⟨u, by rw [upd_ne (ne_of_none w np)]; exact w, wn⟩, q.tab.ext fun b u z => by rw [upd_ne (ne_of_none z np)]; exact z⟩
  have nm : p ∉ m := fun z => by
    obtain ⟨u, w⟩ := q.sto.live z
    rw [np] at w; cases w
  have ny : p ∉ y := fun z => by
    obtain ⟨u, w, _⟩ := q.ex p z
    rw [np] at w; cases w
  have E0 : Ext (gOf X T) m H m (upd H p (.dK [])) := Ext.new np
  refine disp_args hl p0 ?_
  unfold nddM at h
  cases qa : argsM fs ρ S with
  | un => rw [qa] at h; exact h.elim
  | ex ee S' => rw [qa] at h; exact h.elim
  | ok us S' =>
    rw [qa] at h
    intro m1 H1 E1 R1 vs rvs
    dsimp only at h
    split at h
    · rename_i ds hd
      have hr := RUs.pure rvs hd
      have hv : vs.length = ks.length := by rw [← RUs.length rvs, argsM_len qa, hl]
      have hp1 : H1 p = some (.dK []) := E1.keep _ _ upd_same nm (fun ps z => by cases z)
      have nm1 : p ∉ m1 := fun z => by
        obtain ⟨nw, e1, f1⟩ := E1.pre
        rw [e1] at z
        rcases List.mem_append.mp z with z | z
        · exact nm z
        · exact f1 p z ⟨_, upd_same, fun ps z => by cases z⟩
      have nk : ((([] : List (Key × V)) ++ (ks.map Sum.inr : List Key).zip vs).map (·.1)).Nodup := by
        rw [List.nil_append, (zip_keys hv).2]
        exact List.Pairwise.map _ (fun a b hab z => hab (Sum.inr.inj z)) hk
      refine ⟨hp1, (ks.map Sum.inr).zip vs, (zip_keys hv).1, ?_, ?_⟩
      · rw [List.length_zip, List.length_map, hv, Nat.min_self]
        exact Nat.le_of_ble_eq_true h15
      · rw [mergeK_nodup _ _ nk, List.nil_append]
        have E2 : Ext (gOf X T) m H m1 (upd H1 p (.dK ((ks.map Sum.inr).zip vs))) := Ext.growO (E0.trans E1) np hp1 (fun ps z => by cases z) (fun c q z => dK_code) (fun ps z => by cases z)
        have E3 : Ext (gOf X T) m H (m1 ++ [p]) (upd H1 p (.dK ((ks.map Sum.inr).zip vs))) := by
          refine ⟨E2.keep, E2.tups, E2.frzs, E2.owns, E2.live, ?_, E2.tab⟩
          obtain ⟨nw, e1, f1⟩ := E2.pre
          refine ⟨nw ++ [p], by rw [e1, List.append_assoc], fun b hb => ?_⟩
          rcases List.mem_append.mp hb with z | z
          · exact f1 b z
          · have : b = p := by simpa using z
            subst this
            intro w
            obtain ⟨u, w1, _⟩ := w
            rw [np] at w1; cases w1
        have kg : Keep (gOf X T) (p :: y ++ m1) H1 (p :: y ++ m1) (upd H1 p (.dK ((ks.map Sum.inr).zip vs))) := Keep.upd1 hp1 (fun _ z => by cases z) (fun _ _ z => by cases z) List.mem_cons_self
        have sub : ∀ a ∈ y ++ (m1 ++ [p]), a ∈ p :: y ++ m1 := fun a ha => by
          rcases List.mem_append.mp ha with z | z
          · exact List.mem_cons_of_mem _ (List.mem_append_left _ z)
          · rcases List.mem_append.mp z with z | z
            · exact List.mem_cons_of_mem _ (List.mem_append_right _ z)
            · have : a = p := by simpa using z
              subst this
              exact List.mem_cons_self
        have ks2 : Keep (gOf X T) (p :: y ++ m1) (upd H1 p (.dK ((ks.map Sum.inr).zip vs))) (y ++ (m1 ++ [p])) (upd H1 p (.dK ((ks.map Sum.inr).zip vs))) := keep_sub sub
        have R2 := (R1.keep kg (fun b hb => List.mem_append_right _ hb) (fun a ha => upd_ne fun z => nm1 (z ▸ ha)) (fun b c q => by
            rw [upd_ne (fun z => by rw [z, hp1] at q; cases q)]; exact q)).keep ks2 (fun b hb => List.mem_append_right _ (List.mem_append_left _ hb)) (fun _ _ => rfl) fun _ _ q => q
        have rd := RD.k (G := gOf X T) (H := upd H1 p (.dK ((ks.map Sum.inr).zip vs))) (a := p) (ks.map Sum.inr) vs (by rw [List.length_map, hv])
        have ek : (ks.map (Sum.inr : Str → Key)).map kN = ks.map .text := by simp [kN, Function.comp_def]
        rw [ek] at rd
        have R3 := R2.push nm1 upd_same (.dic rd ((hr.keep kg).keep ks2))
        exact h (m1 ++ [p]) _ E3 R3 _ (.c (by rw [← R1.len]; simp))
    · exact h.elim
end
end Mir

/-! Tx: set(a tuple of texts), sorted(that). -/
namespace Tx
open PySem PySem.Spec PyProof.Rows L2 PySem.Froz
/-- a set that holds the texts l, laid so that it can be walked -/
def Is (P : Program) (w : World) (h : Heap) (a : Addr) (l : List Str) : Prop :=
  ∃ D : SD, h.get? a = some (sObj "set" D) ∧ TxOk P w D l ∧ l.Nodup ∧ Ris D.2.2.place.toList ∧ (w.params.followText "set-order" = true ∨ D.2.2.led = true) ∧ (D.1.toList.map fun e => strOf e.2).Perm l
section
variable {P : Program} {w : World} {A : Around} {E : Value → Shared → Prop} {s : Shared} {a : Addr} {l : List Str}
theorem Is.at {h h' : Heap} (x : Is P w h a l) (k : ∀ o, h.get? a = some o → h'.get? a = some o) : Is P w h' a l := by
  obtain ⟨D, ho, r⟩ := x
  exact ⟨D, k _ ho, r⟩
theorem Is.lt {h : Heap} (x : Is P w h a l) : a < h.objs.size := by
  obtain ⟨D, ho, _⟩ := x
  exact Heap.lt_size ho
theorem tail_walk {ep : Nat} {es1 : Array (Int × Value)} {t2 : SetTable} {b : Bool} (r : Ris t2.place.toList) : Ris (tailTx ep es1 t2 b).2.2.place.toList ∧ (tailTx ep es1 t2 b).2.2.led = t2.led := by
  unfold tailTx
  split
  · exact ⟨relayAll_ris t2 es1 _, relayAll_led t2 es1 _⟩
  · exact ⟨r, rfl⟩
theorem add_walk {D : SD} {hv : Int} {v : Value} (r : Ris D.2.2.place.toList) : Ris (addTx hv v D).2.2.place.toList ∧ (addTx hv v D).2.2.led = D.2.2.led := by
  have r1 := layNew_ris D.2.2 D.1 hv v r
  have l1 := layNew_led D.2.2 D.1 hv v
  unfold addTx
  split
  · obtain ⟨x, y⟩ := tail_walk (ep := D.2.1) (es1 := (layNew D.2.2 D.1 hv v).1) (t2 := { (layNew D.2.2 D.1 hv v).2.1 with plain := false }) (b := (layNew D.2.2 D.1 hv v).2.2.1) r1
    exact ⟨x, y.trans l1⟩
  · obtain ⟨x, y⟩ := tail_walk (ep := D.2.1) (es1 := (layNew D.2.2 D.1 hv v).1) (t2 := (layNew D.2.2 D.1 hv v).2.1) (b := (layNew D.2.2 D.1 hv v).2.2.1) r1
    exact ⟨x, y.trans l1⟩
theorem add_perm (D : SD) (hv : Int) (v : Value) : (addTx hv v D).1.toList.Perm ((hv, v) :: D.1.toList) := by
  have p1 := layNew_perm D.2.2 D.1 hv v
  rw [Array.toList_push] at p1
  have p2 : (layNew D.2.2 D.1 hv v).1.toList.Perm ((hv, v) :: D.1.toList) := p1.trans (List.perm_append_singleton _ _)
  have key : ∀ (ep : Nat) (t2 : SetTable) (b : Bool), (tailTx ep (layNew D.2.2 D.1 hv v).1 t2 b).1.toList.Perm ((hv, v) :: D.1.toList) := fun ep t2 b => by
    unfold tailTx
    split
    · exact (relayAll_perm t2 _ _).trans p2
    · exact p2
  exact key _ _ _
/-- a text that is there already -/
theorem add_old {D : SD} {k : Str} {u : Tok} {Q : Bool → Shared → Prop} (ho : s.heap.get? a = some (sObj "set" D)) (F : TxOk P w D l) (hk : k ∈ l) (hb : l.length < scanBound) (h : Q false s) :
    wpAny (model P w) A (setAddHashed a (.str k u) (hashStr w k)) Q E s := by
  have hd : (sObj "set" D).data = .set D.1 D.2.1 D.2.2 := rfl
  have h0 : D.1.size < scanBound := by rw [F.sz]; exact hb
  have hy : (strKind P w).is k (.str k u) = true := is_str k u
  unfold setAddHashed setAddHashedIn
  refine wpAny_holding (wpAny_bind (wpAny_setState_of ho hd F.fit ?_)); dsimp only
  rw [byScan_of rfl h0 F.el]; simp only [↓reduceIte]
  unfold setAddByScan
  refine wpAny_bind (wpAny_bind (wpAny_rule (wpAny_bind (wpAny_setScan_of (knd := strKind P w) (k := k) hy ho hd F.fit F.el ?_))))
  cases q : List.findIdx? (fun e => (strKind P w).is k e.2) D.1.toList with
  | some j => dsimp only; exact wpAny_pure (wpAny_pure h)
  | none =>
    obtain ⟨e, he, z⟩ := (F.mem k).mp hk
    have c := List.findIdx?_eq_none_iff.mp q e he
    rw [z] at c; cases c
def put (l : List Str) (k : Str) : List Str := if k ∈ l then l else k :: l
theorem add_any {k : Str} {u : Tok} {Q : Bool → Shared → Prop} (x : Is P w s.heap a l) (hb : l.length + 1 < scanBound)
    (h : ∀ (y : Bool) h' tk, (∀ b o, b ≠ a → s.heap.get? b = some o → h'.get? b = some o) → Is P w h' a (put l k) → Q y { s with heap := h', toks := tk }) :
    wpAny (model P w) A (setAdd a (.str k u)) Q E s := by
  obtain ⟨D, ho, F, nd, r, ld, pm⟩ := x
  have hy : (strKind P w).is k (.str k u) = true := is_str k u
  unfold setAdd
  refine wpAny_holding (wpAny_bind ((strKind P w).pyHash hy ?_))
  by_cases hk : k ∈ l
  · refine add_old (s := { s with toks := s.toks + 1 }) ho F hk (by omega) ?_
    have := h false s.heap (s.toks + 1) (fun _ _ _ e => e) (by unfold put; rw [if_pos hk]; exact ⟨D, ho, F, nd, r, ld, pm⟩)
    exact this
  · obtain ⟨r', ld'⟩ := add_walk (hv := hashStr w k) (v := .str k u) r
    refine add_x (s := { s with toks := s.toks + 1 }) ho F hk hb ?_
    have := h true (s.heap.update a fun _ => sObj "set" (addTx (hashStr w k) (.str k u) D)) (s.toks + 1) (fun b o hne e => (Heap.get?_update_other _ _ (Ne.symm hne)).trans e)
      (by unfold put; rw [if_neg hk]; exact ⟨_, get_upd _ ho rfl, add_ok u F, List.nodup_cons.mpr ⟨hk, nd⟩, r', ld.imp id fun z => by rw [ld']; exact z, ((add_perm D (hashStr w k) (.str k u)).map _).trans (List.Perm.cons k pm)⟩)
    exact this
theorem put_len (l : List Str) (k : Str) : (put l k).length ≤ l.length + 1 := by
  unfold put
  split
  · omega
  · simp
def gath (l : List Str) : List Str → List Str
  | [] => l
  | k :: ks => gath (put l k) ks
/-- the walk of set(xs) over a tuple of texts -/
theorem fill {I S : Addr} {fp wr : List Addr} {n : Nat} {Pv : Nat → Value → Prop} {St : Nat → Heap → Prop} {R : Result → Shared → Prop} (W : Walks P w A.in1 I fp wr n Pv St) (hS : S ∉ fp) (hw : S ∉ wr) :
    ∀ (ks : List Str) (i : Nat) (s : Shared) (l : List Str), i + ks.length = n → (∀ j k, ks[j]? = some k → ∀ v, Pv (i + j) v → ∃ t, v = .str k t) → l.length + ks.length + 1 < scanBound → St i s.heap → Is P w s.heap S l →
      (∀ h' tk, (∀ b o, b ≠ S → b ∉ wr → s.heap.get? b = some o → h'.get? b = some o) → Is P w h' S (gath l ks) → R (.ok (.ret .none)) { s with heap := h', toks := tk }) →
      codeAny (model P w) A (.builtin "set.update.loop" ⟨[.ref S, .ref I], []⟩) R s
  | [], i, s, l, hn, _, _, st, x, h => by
    have e : i = n := by simpa using hn
    subst e
    refine codeAny_builtin F.entry_set_update_loop ?_
    rw [Around.under_plainId F.plain_set_update_loop _]
    show wpAny _ A.in1 (pyNext (.ref I) >>= _) _ _ s
    refine wpAny_bind (W.done s _ _ st fun h' tk k => ?_)
    show wpAny _ A.in1 (ret Value.none) _ _ _
    exact wpAny_pure (h h' tk (fun b o _ hb e => k b o hb e) (x.at fun o e => k S o hw e))
  | k :: ks, i, s, l, hn, hv, hb, st, x, h => by
    simp only [List.length_cons] at hn hb
    refine codeAny_builtin F.entry_set_update_loop ?_
    rw [Around.under_plainId F.plain_set_update_loop _]
    show wpAny _ A.in1 (pyNext (.ref I) >>= _) _ _ s
    refine wpAny_bind (W.item i s _ _ (by omega) st fun v h1 t1 pv st1 k1 => ?_)
    obtain ⟨t, rfl⟩ := hv 0 k rfl v pv
    have x1 : Is P w h1 S l := x.at fun o e => k1 S o hw e
    show wpAny _ A.in1 (holding [Value.str k t] (setAdd S (.str k t)) >>= _) _ _ _
    refine wpAny_bind (wpAny_holding (add_any (s := { s with heap := h1, toks := t1 }) x1 (by omega) fun y h2 t2 k2 x2 => ?_))
    have pl := put_len l k
    refine wpAny_pure ⟨plainId_quiet F.plain_set_update_loop _, fill W hS hw ks (i + 1) _ (put l k) (by omega) (fun j k' hj v' pv' => hv (j + 1) k' (by simpa using hj) v' (by rw [show i + (j + 1) = i + 1 + j by omega]; exact pv')) (by omega) (W.frame _ _ _ st1 fun b hbf o e => k2 b o (fun z => hS (z ▸ hbf)) e) x2 fun h3 t3 k3 x3 => ?_⟩
    exact h h3 t3 (fun b o n1 n2 e => k3 b o n1 n2 (k2 b o n1 (k1 b o n2 e))) x3
end
end Tx

/-! Ty: set(a tuple of texts) as a call. -/
namespace Tx
open PySem PySem.Spec PyProof.Rows L2 PySem.Froz
section
variable {P : Program} {w : World} {A : Around} {E : Value → Shared → Prop} {s : Shared} {a : Addr} {l : List Str}
theorem strs_at : ∀ {vs : List Value} {ts : List Str}, StrsAre vs ts → ∀ (j : Nat) (k : Str) (v : Value), ts[j]? = some k → vs[j]? = some v → ∃ u, v = .str k u
  | _, _, .nil, j, k, v, hk, _ => by simp at hk
  | _, _, .cons x t r, 0, k, v, hk, hv => by
    simp at hk hv
    exact ⟨t, by rw [← hv, hk]⟩
  | _, _, .cons x t r, j + 1, k, v, hk, hv => strs_at r j k v (by simpa using hk) (by simpa using hv)
def fresh (w : World) : Obj := { cls := .type "set", dict := none, data := .set #[] 0 (.fresh 0 0 (!w.params.followText "set-order")) }
theorem is_fresh {h : Heap} (ho : h.get? a = some (fresh w)) : Is P w h a [] :=
  ⟨(#[], 0, .fresh 0 0 (!w.params.followText "set-order")), ho, TxOk.nil rfl, List.nodup_nil, List.Pairwise.nil, by
    cases e : w.params.followText "set-order"
    · exact .inr rfl
    · exact .inl rfl, List.Perm.refl _⟩
theorem make1 (x : Value) {Q1 : Value → Shared → Prop} (h : Q1 (.ref s.heap.objs.size) { s with heap := s.heap.push (fresh w) }) :
    codeAny (model P w) A (.call (.builtin "set.__new__") ⟨[.type "set", x], []⟩) (wants Q1 E) s := by
  refine codeAny_of_tree ?_
  show wpAny _ A.in1 (checkBuiltinCall "set.__new__" ⟨[.type "set", x], []⟩ >>= fun _ => again (.builtin "set.__new__" ⟨[.type "set", x], []⟩)) _ _ s
  refine wpAny_bind (wpAny_of_eq (PySem.F.newCall_set_1 x) (wpAny_pure ⟨plainId_quiet F.plain_set_new _, codeAny_builtin F.entry_set_new ?_⟩))
  rw [Around.under_plainId F.plain_set_new _]
  unfold Builtin.«set.__new__» Builtin.Frozenset.newClass
  have hsub := sub_set_self
  obtain ⟨hp, g, d, tk, os⟩ := s
  dsimp only
  wp_walk
  refine wpAny_askSetting (wpAny_pure ?_); dsimp only
  simp only [newObj]
  exact wpAny_bind (wpAny_alloc (wpAny_pure (wpAny_pure h)))
theorem call_tup {t : Addr} {items : Array Value} {ts : List Str} {Q : Value → Shared → Prop} (hh : A.handled = none) (ht : s.heap.IsTuple t items) (hi : StrsAre items.toList ts) (hb : ts.length + 1 < scanBound)
    (h : ∀ (h' : Heap) (tk : Nat), Is P w h' s.heap.objs.size (gath [] ts) → (∀ b o, b < s.heap.objs.size → s.heap.get? b = some o → h'.get? b = some o) → Q (.ref s.heap.objs.size) { s with heap := h', toks := tk }) :
    wpAny (model P w) A (call (.type "set") [.ref t]) Q E s := by
  obtain ⟨c, tl, hmro⟩ := F.called_set.mro
  have hmade := F.called_set.made
  have hsub := F.called_set.sub
  refine wpAny_call (codeAny_of_tree ?_)
  show wpAny _ _ (callAny (.type "set") _) _ _ _
  refine wpAny_pure ⟨Code.quiet_builtin _ (by decide +kernel), codeAny_builtin F.entry_type_call ?_⟩
  rw [Around.under_plain (weight_type_call_type "set" [.ref t] []) rfl]
  have h1 := F.called_set.notType
  have h2 := F.called_set.canCreate
  have hct := PySem.F.typeCall_set_1 (.ref t)
  repeat (any_goals (first | assumption | wp_step))
  refine codeAny_mono (make1 (.ref t) (E := E) (Q1 := fun obj s1 => obj = .ref s.heap.objs.size ∧ s1 = { s with heap := s.heap.push (fresh w) }) ⟨rfl, rfl⟩) fun r s1 hr => ?_
  cases r with
  | error e => exact hr
  | ok fl =>
    cases fl with
    | ret obj =>
      obtain ⟨rfl, rfl⟩ := hr
      have hS : (s.heap.push (fresh w)).get? s.heap.objs.size = some (fresh w) := Heap.get?_push_size _ rfl
      have hT : Shared.TypeIs { s with heap := s.heap.push (fresh w) } (.ref s.heap.objs.size) "set" := ⟨_, hS, rfl⟩
      have hli := F.called_set.init.lookup
      have hbi := F.called_set.init.bind (.ref s.heap.objs.size)
      repeat (any_goals (first | assumption | wp_step))
      refine codeAny_mono (codeAny_call_builtin (R := wants (fun r s2 => r = .none ∧ ∃ h' tk, s2 = { s with heap := h', toks := tk } ∧ Is P w h' s.heap.objs.size (gath [] ts) ∧
          (∀ b o, b < s.heap.objs.size → s.heap.get? b = some o → h'.get? b = some o)) E) F.called_set.init.plain F.entry_set_init (check_set_init_1 hT ?_)) fun r2 s2 hr2 => ?_
      · obtain ⟨ol, hol, hcl, nl, hdl⟩ := ht
        obtain ⟨ocls, odict, odata, oslots⟩ := ol
        simp only at hcl hdl
        subst hcl; subst hdl
        have hol' : (s.heap.push (fresh w)).get? t = some { cls := .type "tuple", dict := odict, data := .seq items nl, slots := oslots } := Heap.get?_push_of_some _ hol
        have hsls := F.sub_tuple_set
        have hslf := F.sub_tuple_frozenset
        have hne : (Value.type "tuple" == Value.type "dict") = false := by decide
        have hl1 : (s.heap.push (fresh w)).IsTuple t items := ⟨_, hol', rfl, nl, rfl⟩
        unfold Builtin.«set.__init__» noKeywords Builtin.Frozenset.updateFrom
        generalize hPI : pyIter = PI
        wp_walk
        subst hPI
        refine wpAny_pyIter_tuple hl1 ?_
        refine wpAny_bind (wpAny_runValue ?_)
        have hlS : t < s.heap.objs.size := Heap.lt_size hol
        have hh3 : A.in1.in1.in1.handled = none := by simp [hh]
        have hsz : (s.heap.push (fresh w)).objs.size = s.heap.objs.size + 1 := size_push' _ _
        have hneI : t ≠ (s.heap.push (fresh w)).objs.size := by rw [hsz]; exact Nat.ne_of_lt (Nat.lt_succ_of_lt hlS)
        have hnS : s.heap.objs.size ∉ [(s.heap.push (fresh w)).objs.size, t] := by
          rw [hsz]; simp only [List.mem_cons, List.not_mem_nil, or_false, not_or]; exact ⟨Nat.ne_of_lt (Nat.lt_succ_self _), Nat.ne_of_gt hlS⟩
        have hnw : s.heap.objs.size ∉ [(s.heap.push (fresh w)).objs.size] := by
          rw [hsz]; simp only [List.mem_cons, List.not_mem_nil, or_false]; exact Nat.ne_of_lt (Nat.lt_succ_self _)
        have hts : ts.length = items.size := by rw [← Array.length_toList]; exact (StrsAre.length hi).symm
        have hv : ∀ j k, ts[j]? = some k → ∀ v, items[0 + j]? = some v → ∃ u, v = .str k u := fun j k hk v hvj => by
          rw [Nat.zero_add] at hvj
          exact strs_at hi j k v hk (by rw [Array.getElem?_toList]; exact hvj)
        have hget : ((s.heap.push (fresh w)).push { cls := .type "tuple_iterator", data := .fields #[.ref t, .int 0 0] }).get? s.heap.objs.size = some (fresh w) := Heap.get?_push_of_some _ hS
        refine fill (Walks.tuple hh3 _ t hneI items) hnS hnw ts 0 _ [] (by rw [Nat.zero_add, hts]) hv (by simpa using hb) ⟨⟨_, Heap.get?_push_size _ rfl, rfl, rfl⟩, hl1.push _⟩ (is_fresh hget) fun h3 t3 k3 x3 => ?_
        show wpAny _ _ _ _ _ _
        refine wpAny_pure ?_
        show wpAny _ _ (ret Value.none) _ _ _
        refine wpAny_pure ⟨rfl, h3, t3, rfl, x3, fun b o hbl e => ?_⟩
        exact k3 b o (Nat.ne_of_lt hbl) (by rw [hsz]; simp only [List.mem_cons, List.not_mem_nil, or_false]; exact Nat.ne_of_lt (Nat.lt_succ_of_lt hbl)) (Heap.get?_push_of_some _ (Heap.get?_push_of_some _ e))
      · cases r2 with
        | error e => exact hr2
        | ok fl2 =>
          cases fl2 with
          | ret r =>
            obtain ⟨rfl, h', tk, rfl, x3, k3⟩ := hr2
            repeat (any_goals (first | assumption | wp_step))
            exact h _ _ x3 k3
          | _ => exact hr2.elim
    | _ => exact hr.elim
end
end Tx

/-! Tz: sorted(a set of texts). -/
namespace Tx
open PySem PySem.Spec PyProof.Rows L2 PySem.Froz
section
variable {P : Program} {w : World} {A : Around} {E : Value → Shared → Prop} {s : Shared} {a : Addr} {l : List Str}
theorem elems_str {es : List (Int × Value)} (F : ElemsOf (PySem.strKind P w) es) : ∀ v ∈ es.map (·.2), ∃ x t, v = .str x t := fun v hv => by
  obtain ⟨e, he, rfl⟩ := List.mem_map.mp hv
  obtain ⟨⟨k, hk, _⟩, _⟩ := F e he
  have hk' : Value.isStrOf k e.2 = true := hk
  cases h : e.2 with
  | str x t => exact ⟨x, t, rfl⟩
  | _ => rw [h] at hk'; simp [Value.isStrOf] at hk'
theorem sorted_tx {Q : Value → Shared → Prop} (x : Is P w s.heap a l) (hh : A.handled = none) (h64 : l.length < 64)
    (hQ : ∀ s' p (out : Array Value) (c : Nat) (ss : List Str), (∀ b o, s.heap.get? b = some o → s'.heap.get? b = some o) → s'.gens = s.gens → s'.os = s.os → s.heap.objs.size ≤ p →
      s'.heap.get? p = some (seqObj "list" out c) → StrsAre out.toList ss → ss.Perm l → sortedS ss = true → Q (.ref p) s') :
    wpAny (model P w) A (call (.builtin "sorted") [.ref a]) Q E s := by
  obtain ⟨D, ho, F, nd, r, ld, pl⟩ := x
  have hsz : D.1.size = l.length := F.sz
  have hb : D.1.size < scanBound := by rw [hsz]; exact Nat.lt_trans h64 (by decide)
  refine Calls.call_function_entry kind_sorted plain_sorted entry_sorted (args_sorted1 _) ?_
  unfold Builtin.«sorted»
  refine wpAny_bind (m := checkCount "sorted" 1 1 _) (wpAny_pure ?_)
  refine wpAny_bind (collect_set (A := A.in1) hh ⟨_, ho, rfl, rfl⟩ F.fit hb r ld fun s1 vs k1 hz g1 o1 pm => ?_)
  have hvl : vs.length = l.length := by rw [pm.length_eq, List.length_map, Array.length_toList, hsz]
  have hI : StrsAre vs (vs.map strOf) := strsAre_map vs fun v hv => elems_str F.el v (pm.mem_iff.mp hv)
  have pk : (vs.map strOf).Perm l := by
    refine (pm.map strOf).trans ?_
    rw [List.map_map]
    exact pl
  have hv64 : vs.length < 64 := by rw [hvl]; exact h64
  refine wpAny_bind (wpAny_newList ?_ (by rw [hvl, sizeLine_eq]; omega))
  have hoL : (s1.heap.push (seqObj "list" vs.toArray 0)).get? s1.heap.objs.size = some (seqObj "list" vs.toArray 0) := Heap.get?_push_size _ rfl
  refine wpAny_bind (wpAny_holding (wpAny_call_entry slot_list_sort ⟨_, hoL, rfl⟩ entry_list_sort
    (list_sort_treeK strKind_oneLt hoL hI.keysOf (fun v1 v2 rest e => keyKind_strs (by rw [← e]; exact hI)) hv64 fun st' hp hs => ⟨_, rfl, ?_⟩) (args_list_sort _)))
  obtain ⟨ss, a1, a2, a3⟩ := sorted_out_str hI hp hs
  obtain ⟨c, hc⟩ := sortedHeap_at (vs := vs) (out := (arrOf st').map (·.2)) hoL
  refine wpAny_pure ⟨_, rfl, hQ _ s1.heap.objs.size _ c ss (fun b u e => ?_) g1 o1 hz hc a1 (a2.trans pk) a3⟩
  have q := k1 b u e
  have hlt := Heap.lt_size q
  exact (sortedHeap_old (Nat.ne_of_lt hlt) (by rw [size_push']; exact Nat.lt_succ_of_lt hlt)).trans (Heap.get?_push_of_some _ q)
end
end Tx

/-! Tw: set(a tuple of texts), sorted(a set of texts): what the calls do. -/
namespace Tx
open PySem PySem.Spec PyProof.Rows L2 PySem.Froz
def TxO (P : Program) (w : World) (a : Addr) (l : List Str) : HO := .ext fun h => Is P w h a l
theorem txO_new {P : Program} {w : World} {H : Hp} {h : Heap} {a : Addr} {l : List Str} (x : Is P w h a l) : ObjOk P w H h a (TxO P w a l) :=
  ⟨x, (by obtain ⟨D, ho, _⟩ := x; exact ⟨_, ho⟩), fun _ _ p k => p.at k⟩
theorem strs_vals : ∀ {ts : List Str} {us : List Value}, Vals (ts.map V.str) us → StrsAre us ts
  | [], us, r => by cases r; exact .nil
  | x :: ts, us, r => by
    cases r with
    | cons h r =>
      obtain ⟨t, rfl⟩ := h
      exact .cons x t (strs_vals r)
theorem vals_strs : ∀ {us : List Value} {ts : List Str}, StrsAre us ts → Vals (ts.map V.str) us
  | _, _, .nil => .nil
  | _, _, .cons x t r => .cons ⟨t, rfl⟩ (vals_strs r)
def rSetTx (K : PySem.W.Frag) (P : Program) (w : World) : List V → Hp → VK → Prop := fun vs H Q => ∃ (t : Addr) (ts : List Str), vs = [V.ref t] ∧ SqT K H t (ts.map V.str) ∧ ts.length ≤ 60 ∧
  ∀ p, H p = none → Q (.ref p) (upd H p (TxO P w p (gath [] ts)))
def rSortTx (P : Program) (w : World) : List V → Hp → VK → Prop := fun vs H Q => ∃ (a : Addr) (l : List Str), vs = [V.ref a] ∧ H a = some (TxO P w a l) ∧ l.length < 64 ∧
  ∀ p ss, H p = none → ss.Perm l → sortedS ss = true → Q (.ref p) (upd H p (.lst (ss.map V.str)))
section
variable {X : Cx}
theorem cr_setTx (hc : X.calm = true) : CallR X (.type "set") (rSetTx X.K X.prog X.w) := by
  intro pins s σ H xs us Q I r h
  obtain ⟨t, ts, rfl, ht, hl, q⟩ := h
  rw [Vals.ref1 r]
  obtain ⟨its, rv, p1, _⟩ := I.tuple ht
  have hs : StrsAre its.toArray.toList ts := by simpa using strs_vals rv
  refine call_tup (P := X.prog) (w := X.w) (I.ok.hd hc) p1 hs (Nat.lt_of_le_of_lt (Nat.succ_le_succ hl) (by decide)) fun h' tk x k => ?_
  exact ⟨.ref s.heap.objs.size, upd H s.heap.objs.size (TxO X.prog X.w s.heap.objs.size (gath [] ts)), I.laid (t' := tk) (fun b u e => k b u (Heap.lt_size e) e) (Nat.le_refl _) (txO_new x), rfl, q _ (I.hok.fresh (Nat.le_refl _))⟩
theorem cr_sortTx (hc : X.calm = true) : CallR X (.builtin "sorted") (rSortTx X.prog X.w) := by
  intro pins s σ H vs us Q I r h
  obtain ⟨a, l, rfl, ha, h64, q⟩ := h
  rw [Vals.ref1 r]
  have x : Is X.prog X.w s.heap a l := (I.hok a _ ha).1
  refine sorted_tx x (I.ok.hd hc) h64 fun s' p out c ss k g o hp hg hs pm so => ?_
  have hn : H p = none := I.hok.fresh hp
  have hlen : (ss.map V.str).length ≤ sizeLine := by rw [List.length_map, pm.length_eq, sizeLine_eq]; omega
  exact ⟨.ref p, upd H p (.lst (ss.map V.str)), I.call' (ch := []) o (Un.laid k hp hn) (I.hok.laid k hp ⟨hlen, out.toList, c, vals_strs hs, hg⟩) (by rw [g]; exact I.bare) (fun _ z => nomatch z), rfl, q p ss hn pm so⟩
end
end Tx

/-! Mir27: sorted(set(a tuple of texts)). -/
namespace Mir
open PySem PySem.Spec PyProof.Rows L2 HT
def leS (a b : Str) : Prop := a.cps.toList ≤ b.cps.toList
theorem leS_trans {a b c : Str} (h : leS a b) (h' : leS b c) : leS a c := List.le_trans h h'
theorem leS_anti {a b : Str} (h : leS a b) (h' : leS b a) : a = b := by
  have e : a.cps.toList = b.cps.toList := List.le_antisymm h h'
  cases a; cases b
  simpa using e
theorem leS_of {a b : Str} (h : ltCps b.cps.toList a.cps.toList = false) : leS a b := by
  rw [ltCps_eq] at h
  exact List.not_lt.mp (of_decide_eq_false h)
theorem rising_pw : ∀ (p : Str) (l : List Str), risingS p l = true → (p :: l).Pairwise leS
  | p, [], _ => List.pairwise_singleton _ _
  | p, x :: r, h => by
    have h' : (!ltCps x.cps.toList p.cps.toList && risingS x r) = true := h
    rw [Bool.and_eq_true] at h'
    have h1 : leS p x := leS_of (by simpa using h'.1)
    have h2 := rising_pw x r h'.2
    refine List.pairwise_cons.mpr ⟨fun y hy => ?_, h2⟩
    rcases List.mem_cons.mp hy with z | z
    · rw [z]; exact h1
    · exact leS_trans h1 (List.rel_of_pairwise_cons h2 z)
theorem sorted_pw : ∀ l : List Str, sortedS l = true → l.Pairwise leS
  | [], _ => List.Pairwise.nil
  | x :: r, h => rising_pw x r h
def leB (a b : Str) : Bool := decide (a.cps.toList ≤ b.cps.toList)
/-- the texts of a list, each once, in order -/
def srtU (ts : List Str) : List Str := (Tx.gath [] ts).mergeSort leB
theorem srtU_pw (ts : List Str) : (srtU ts).Pairwise leS := by
  have h := List.pairwise_mergeSort (le := leB) (fun a b c x y => decide_eq_true (p := a.cps.toList ≤ c.cps.toList) (leS_trans (a := a) (b := b) (c := c) (of_decide_eq_true (p := a.cps.toList ≤ b.cps.toList) x) (of_decide_eq_true (p := b.cps.toList ≤ c.cps.toList) y))) (fun a b => by
    rcases List.le_total a.cps.toList b.cps.toList with z | z
    · rw [leB, decide_eq_true z]; rfl
    · rw [Bool.or_eq_true]; exact .inr (decide_eq_true z)) (Tx.gath [] ts)
  exact h.imp fun z => of_decide_eq_true z
theorem srtU_perm (ts : List Str) : (srtU ts).Perm (Tx.gath [] ts) := List.mergeSort_perm _ _
theorem srtU_of {ts ss : List Str} (pm : ss.Perm (Tx.gath [] ts)) (h : ss.Pairwise leS) : ss = srtU ts :=
  List.Perm.eq_of_pairwise (le := leS) (fun _ _ _ _ => leS_anti) h (srtU_pw ts) (pm.trans (srtU_perm ts).symm)
def txsOf : List D → Option (List Str)
  | [] => some []
  | .str x :: ds => (txsOf ds).map fun ts => x :: ts
  | _ => none
theorem txsOf_eq : ∀ {ds : List D} {ts : List Str}, txsOf ds = some ts → ds = ts.map D.str
  | [], ts, h => by cases h; rfl
  | d :: ds, ts, h => by
    cases d with
    | str x =>
      cases q : txsOf ds with
      | none => simp [txsOf, q] at h
      | some t2 =>
        simp [txsOf, q] at h
        rw [← h, List.map_cons, txsOf_eq q]
    | _ => simp [txsOf] at h
def sosG : D → Option D
  | .tup ds => match txsOf ds with
    | some ts => if ts.length ≤ 60 then some (.lst ((srtU ts).map D.str)) else none
    | none => none
  | _ => none
def sosM (fe : ME) : ME := fun ρ S => (fe ρ S).bind fun u S1 => match rd S1 u with
  | some d => match sosG d with
    | some z => .ok (.d z) S1
    | none => .un
  | none => .un
theorem rvs_tx {G : Gc} {e : List Addr} {H : Hp} : ∀ ts : List Str, RVs G e H (ts.map D.str) (ts.map V.str)
  | [] => .nil
  | x :: ts => .cons (.str x) (rvs_tx ts)
theorem tx_rvs {G : Gc} {e : List Addr} {H : Hp} : ∀ {ts : List Str} {xs : List V}, RVs G e H (ts.map D.str) xs → xs = ts.map V.str
  | [], xs, r => by cases r; rfl
  | x :: ts, xs, r => by
    cases r with
    | cons a r =>
      cases a
      rw [tx_rvs r]; rfl
theorem gath_len : ∀ (ts l : List Str), (Tx.gath l ts).length ≤ l.length + ts.length
  | [], l => Nat.le_refl _
  | k :: ts, l => by
    have h := gath_len ts (Tx.put l k)
    have h2 := Tx.put_len l k
    show (Tx.gath (Tx.put l k) ts).length ≤ _
    simp only [List.length_cons]
    omega
section
variable {X : Cx} {T : List (Addr × Str)} {W : WX} {e : Expr} {fe : ME} {p p2 pos pos2 : Pos}
theorem e_sos (hs : X.mg "sorted" = none) (ht : X.mg "set" = none) (he : PE X e (tE (gOf X T) W fe)) (hc : X.calm = true := by rfl) (hg : Gl X "sorted" := by rfl) (hg2 : Gl X "set" := by rfl)
    (h1 : starEach [Expr.Call (.Name "set" p2) [e] [] pos2] X.env = (false, eval (Expr.Call (.Name "set" p2) [e] [] pos2) X.env) :: starEach [] X.env := by rfl) (h2 : (backTo pos (starEach [] X.env)).any (·.1) = false := by rfl)
    (h3 : starEach [e] X.env = (false, eval e X.env) :: starEach [] X.env := by rfl) (h4 : (backTo pos2 (starEach [] X.env)).any (·.1) = false := by rfl) :
    PE X (.Call (.Name "sorted" p) [.Call (.Name "set" p2) [e] [] pos2] [] pos) (tE (gOf X T) W (sosM fe)) :=
  have inner : PE X (.Call (.Name "set" p2) [e] [] pos2) (tCB (Tx.rSetTx X.K X.prog X.w) (tCons (tE (gOf X T) W fe) tNil)) := pe_callTy (Tx.cr_setTx hc) hg2 ht (by decide +kernel) (pa_cons he pa_nil h3) (by decide) (by decide) h3 h4
  pe_mono (pe_callB (Tx.cr_sortTx hc) hg hs (by decide +kernel) (pa_cons inner pa_nil h1) (by decide) (by decide) h1 h2) fun σ H Q h => by
    obtain ⟨y, m, ρ, S, p0, h⟩ := h
    refine ⟨y, m, ρ, S, p0, (Post.bind h).mono fun u S1 m1 H1 E1 R1 ⟨_, _, h5⟩ v rv => ?_⟩
    have q1 := p0.ext E1 R1
    split at h5
    · rename_i d hd
      split at h5
      · rename_i z hz
        unfold sosG at hz
        split at hz
        · rename_i ds
          split at hz
          · rename_i ts hts
            split at hz
            · rename_i hl
              cases hz
              have rt := (RUs.rts R1 (.cons rv .nil) (show rds S1 [u] = some [.tup ds] by simp [rds, hd])).one
              obtain ⟨v', ev, rt⟩ := rt
              cases ev
              obtain ⟨a, xs, rfl, sq, rs⟩ := rt.tup
              have e2 := txsOf_eq hts
              subst e2
              have e3 := tx_rvs rs
              subst e3
              refine ⟨a, ts, rfl, sq, hl, fun p1 hp1 => ⟨p1, Tx.gath [] ts, rfl, upd_same, ?_, fun p3 ss hp3 pm so => ?_⟩⟩
              · have := gath_len ts []
                simp only [List.length_nil] at this
                omega
              · have es := srtU_of pm (sorted_pw ss so)
                subst es
                have n1 : Ext (gOf X T) m1 H1 m1 (upd H1 p1 (Tx.TxO X.prog X.w p1 (Tx.gath [] ts))) := Ext.new hp1
                have n2 : Ext (gOf X T) m1 (upd H1 p1 (Tx.TxO X.prog X.w p1 (Tx.gath [] ts))) m1 (upd (upd H1 p1 (Tx.TxO X.prog X.w p1 (Tx.gath [] ts))) p3 (.lst ((srtU ts).map V.str))) := Ext.new hp3
                refine h5 m1 _ (n1.trans n2) ((R1.new hp1).new hp3) _ (.d (RV.newLst (rvs_tx (srtU ts)) hp3 fun b hb => ?_))
                obtain ⟨o, ho⟩ := q1.trk b hb
                exact ⟨o, by rw [upd_ne (ne_of_none ho hp1)]; exact ho⟩
            · cases hz
          · cases hz
        · cases hz
      · exact h5.elim
    · exact h5.elim
end
/-- a function of which nothing is said -/
theorem ok_un1 {P : Program} {w : World} {K : PySem.W.Frag} {mg : Str → Option Value} {base : Heap} {CX : CXT} {G : Gc} {n p k : Nat} {f : Addr} {fd : FuncData} {ps : List Str} (hl : ps.length = n) : FnOk P w K mg base CX k f fd ps (sp1 G n p fun _ _ => .un) :=
  ⟨fun vs H Q E h => h.1.trans hl.symm, fun _ _ _ _ _ _ _ _ _ _ _ _ _ h => by
    obtain ⟨_, _, _, _, _, _, _, _, _, _, _, _, _, z⟩ := h
    exact z.elim⟩
theorem ok_un0 {P : Program} {w : World} {K : PySem.W.Frag} {mg : Str → Option Value} {base : Heap} {CX : CXT} {G : Gc} {n k : Nat} {f : Addr} {fd : FuncData} {ps : List Str} (hl : ps.length = n) : FnOk P w K mg base CX k f fd ps (sp0 G n fun _ => .un) :=
  ⟨fun vs H Q E h => h.1.trans hl.symm, fun _ _ _ _ _ _ _ _ _ _ _ _ _ h => by
    obtain ⟨_, _, _, _, _, _, z⟩ := h
    exact z.elim⟩
end Mir

/-! Mir32: t[::-1] of a tuple. -/
namespace Mir
open PySem PySem.Spec PyProof.Rows L2 HT
section
variable {prog : Program} {w : World} {A : Around} {E : Value → Shared → Prop} {s : Shared}
theorem applied_back {sl : Addr} {n : Nat} {u : Tok} {Q : Int × Int × Nat → Shared → Prop} (hs : s.heap.IsSliceOf sl .none .none (.int (-1) u)) (h : Q ((n : Int) - 1, -1, n) s) :
    wpAny (model prog w) A (Builtin.Slice.sliceApplied (.ref sl) (pure (n : Int))) Q E s := by
  obtain ⟨os, ho, hc, hd⟩ := id hs
  have ea : Builtin.Slice.sliceAdjust none none (-1) (n : Int) = ((n : Int) - 1, -1) := rfl
  have ep : Builtin.Slice.slicePlaces ((n : Int) - 1) (-1) (-1) = n := by
    unfold Builtin.Slice.slicePlaces
    have h1 : ¬ ((-1 : Int) > 0) := by omega
    simp only [h1, if_false]
    split
    · have e : ((n : Int) - 1 - -1 - 1) / -(-1) + 1 = n := by
        have e1 : -(-1 : Int) = 1 := rfl
        rw [e1, Int.ediv_one]; omega
      rw [e]; rfl
    · omega
  unfold Builtin.Slice.sliceApplied Builtin.Slice.sliceFields
  refine wpAny_bind (wpAny_bind (wpAny_field ho hd (x := .none) rfl (wpAny_bind (wpAny_field ho hd (x := .none) rfl (wpAny_bind (wpAny_field ho hd (x := .int (-1) u) rfl (wpAny_pure ?_)))))))
  refine wpAny_bind (slicePart_int ?_)
  show wpAny _ _ (if ((-1 : Int) == 0) = true then _ else _) _ _ s
  rw [if_neg (by decide)]
  refine wpAny_bind (slicePart_none (wpAny_bind (slicePart_none (wpAny_bind (wpAny_pure ?_)))))
  show wpAny _ _ (match Builtin.Slice.sliceAdjust none none (-1) (n : Int) with | (a, b) => pure (a, (-1 : Int), Builtin.Slice.slicePlaces a b (-1))) _ _ s
  rw [ea]
  show wpAny _ _ (pure ((n : Int) - 1, (-1 : Int), Builtin.Slice.slicePlaces ((n : Int) - 1) (-1) (-1))) _ _ s
  rw [ep]
  exact wpAny_pure h
theorem fm_map {α β : Type} (f : α → Option β) (g : α → β) : ∀ l : List α, (∀ m ∈ l, f m = some (g m)) → l.filterMap f = l.map g
  | [], _ => rfl
  | x :: l, h => by
    rw [List.filterMap_cons, h x List.mem_cons_self, List.map_cons, fm_map f g l fun m hm => h m (List.mem_cons_of_mem _ hm)]
theorem pick_back (xs : Array Value) : ((List.range xs.size).filterMap fun (m : Nat) => xs[(((xs.size : Nat) : Int) - 1 + (m : Int) * -1).toNat]?).toArray = xs.toList.reverse.toArray := by
  congr 1
  apply List.ext_getElem?
  intro i
  have e : (List.range xs.size).filterMap (fun (m : Nat) => xs[(((xs.size : Nat) : Int) - 1 + (m : Int) * -1).toNat]?) = (List.range xs.size).map fun m => xs.toList.getD (xs.size - 1 - m) .none := by
    refine fm_map _ _ _ fun m hm => ?_
    have hm' := List.mem_range.mp hm
    have e1 : (((xs.size : Nat) : Int) - 1 + (m : Int) * -1).toNat = xs.size - 1 - m := by omega
    rw [e1]
    have h2 : xs.size - 1 - m < xs.size := by omega
    simp [h2, List.getD_eq_getElem?_getD]
  rw [e]
  by_cases hi : i < xs.size
  · rw [List.getElem?_map, List.getElem?_range hi, List.getElem?_reverse (by simpa using hi)]
    have h2 : xs.size - 1 - i < xs.size := by omega
    simp [h2, List.getD_eq_getElem?_getD]
  · rw [List.getElem?_eq_none (by simp; omega), List.getElem?_eq_none (by simp; omega)]
theorem getItem_back {t sl : Addr} {items : Array Value} {u : Tok} {Q : Value → Shared → Prop} (ht : IsTup s.heap t items) (hs : s.heap.IsSliceOf sl .none .none (.int (-1) u))
    (h : Q (.ref s.heap.objs.size) { s with heap := s.heap.push { cls := .type "tuple", data := .seq items.toList.reverse.toArray } }) (hz : items.size ≤ sizeLine) : wpAny (model prog w) A (getItem (.ref t) (.ref sl)) Q E s := by
  have hok : sizeOk (.seq items.toList.reverse.toArray) := by
    show items.toList.reverse.toArray.size ≤ sizeLine
    simpa using hz
  obtain ⟨os, ho, hc, hd⟩ := id hs
  have hT : s.TypeIs (.ref sl) "slice" := ⟨os, ho, hc⟩
  unfold getItem
  try with_reducible refine wpAny_holding ?_
  first | refine wpAny_bind (wpAny_pure ?_) | skip
  refine wpAny_bind (wpAny_sequenceKey ht.typeIs (by decide) (wpAny_bind (wpAny_callSpecial?_slot (name := Str.ofString "__getitem__") ht.typeIs PyProof.Rows.slot_tuple_getitem
    (wpAny_call_entry PyProof.Rows.slot_tuple_getitem ht.typeIs entry_tuple_getitem ?_ (args_tuple_getitem _ _)))))
  show wpAny _ _ (Builtin.Tuple.tupleItemsOf (.ref t) >>= _) _ _ s
  refine wpAny_bind (tupleItemsOf_ ht (wpAny_bind (wpAny_typeOf hT ?_)))
  rw [if_pos (by decide)]
  refine wpAny_bind (applied_back hs ?_)
  have hno : ¬ ((((items.size : Nat) : Int) - 1 == 0 && (-1 : Int) == 1 && items.size == items.size) = true) := by simp
  show wpAny _ _ (if (((items.size : Nat) : Int) - 1 == 0 && (-1 : Int) == 1 && items.size == items.size) = true then _ else _) _ _ s
  rw [if_neg hno, pick_back]
  first
    | exact wpAny_bind (m := Builtin.Tuple.tupleExact _) (wpAny_newObj_type (wpAny_pure ⟨_, rfl, wpAny_pure h⟩) hok)
    | exact wpAny_bind (m := Builtin.Tuple.tupleExact _) (wpAny_newObj_type (wpAny_bind (wpAny_pure (wpAny_pure ⟨_, rfl, wpAny_pure h⟩))) hok)
    | exact wpAny_bind (wpAny_bind (m := Builtin.Tuple.tupleExact _) (wpAny_newObj_type (wpAny_pure (wpAny_pure ⟨_, rfl, wpAny_pure h⟩)) hok))
    | exact wpAny_bind (wpAny_bind (m := Builtin.Tuple.tupleExact _) (wpAny_newObj_type (wpAny_pure ⟨_, rfl, wpAny_pure h⟩) hok))
end
section
variable {X : Cx} {e st : Expr} {te ts : TE} {pos p2 : Pos} {T : List (Addr × Str)} {W : WX} {fe : ME}
def tBack (K : PySem.W.Frag) (te ts : TE) : TE := fun σ H Q => te σ H fun x H1 => ts σ H1 fun k H2 => ∃ a xs, x = .ref a ∧ k = .int (-1) ∧ SqT K H2 a xs ∧ ∀ p, H2 p = none → Q (.ref p) (upd H2 p (.tup xs.reverse))
theorem pe_back (he : PE X e te) (hs : PE X st ts) : PE X (.Subscript e (.Slice none none (some st) p2) pos) (tBack X.K te ts) := by
  refine ⟨fun pins s σ H Q I h => ?_⟩
  refine Subscript_ (thn (he.run pins s σ H _ I h) fun v s1 ⟨x, H1, I1, r1, q1⟩ => ?_)
  refine wpAny_Slice ?_
  rw [evalPart_none, evalPart_some]
  refine wpAny_pure (wpAny_pure (thn (hs.run pins s1 σ H1 _ I1 q1) fun vk s2 ⟨k, H2, I2, rk, a, xs, ex, ek, sq, q2⟩ => ?_))
  subst ex ek
  obtain ⟨u, rfl⟩ := rk
  cases r1
  have I3 : Inv X pins σ H2 { s2 with heap := s2.heap.push { cls := .type "slice", data := .fields #[.none, .none, .int (-1) u] } } := I2.kept (t' := s2.toks) fun b ob q => Heap.get?_push_of_some _ q
  obtain ⟨its, rv, tp, hz⟩ := I3.tuple sq
  have hz' : its.toArray.size ≤ sizeLine := by
    have := hz
    simpa [← rv.length] using this
  show wpAny (model X.prog X.w) X.A (subscriptTail e (.Slice none none (some st) p2) (.ref a) (.ref s2.heap.objs.size)) (EP X pins σ Q) X.xe { s2 with heap := s2.heap.push { cls := .type "slice", data := .fields #[.none, .none, .int (-1) u] } }
  refine tail_any (ops := [.ref a, .ref s2.heap.objs.size]) tp.typeIs PyProof.Rows.slot_tuple_getitem.lookup (getItem_back tp (Heap.IsSliceOf.new ..) ?_ hz') (by with_unfolding_all rfl)
  refine ⟨.ref _, _, I3.laid (a := (s2.heap.push { cls := .type "slice", data := .fields #[.none, .none, .int (-1) u] }).objs.size) (o := .tup xs.reverse) (t' := s2.toks) (fun _ _ q => Heap.get?_push_of_some _ q) (Nat.le_refl _) ⟨by rw [List.length_reverse]; simpa using hz, its.reverse, rv.reverse, ?_⟩, rfl, q2 _ (I3.hok.fresh (Nat.le_refl _))⟩
  have := IsTup.new (s2.heap.push { cls := .type "slice", data := .fields #[.none, .none, .int (-1) u] }) its.toArray.toList.reverse.toArray
  simpa using this
def revG : D → Option D
  | .tup ds => some (.tup ds.reverse)
  | _ => none
def revM (fe : ME) : ME := fun ρ S => (fe ρ S).bind fun u S1 => match rd S1 u with
  | some d => match revG d with
    | some z => .ok (.d z) S1
    | none => .un
  | none => .un
theorem rvs_rev {G : Gc} {e : List Addr} {H : Hp} : ∀ {ds : List D} {xs : List V}, RVs G e H ds xs → RVs G e H ds.reverse xs.reverse
  | [], xs, r => by cases r; exact .nil
  | d :: ds, xs, r => by
    cases r with
    | cons a r =>
      rw [List.reverse_cons, List.reverse_cons]
      exact (rvs_rev r).append (.cons a .nil)
theorem e_rev (ha : PE X e (tE (gOf X T) W fe)) (hst : PE X st (tE (gOf X T) W (op1M negG (conM (.int 1)))) := by exact e_un o_neg e_int) : PE X (.Subscript e (.Slice none none (some st) p2) pos) (tE (gOf X T) W (revM fe)) :=
  pe_mono (pe_back ha hst) fun σ H Q h => by
    obtain ⟨y, m, ρ, S, p0, h⟩ := h
    refine ⟨y, m, ρ, S, p0, (Post.bind h).mono fun u S1 m1 H1 E1 R1 ⟨_, _, h5⟩ v rv => ?_⟩
    have q1 := p0.ext E1 R1
    split at h5
    · rename_i d hd
      split at h5
      · rename_i z hz
        unfold revG at hz
        split at hz
        · rename_i ds
          cases hz
          refine ⟨y, m1, ρ, S1, q1, ?_⟩
          show Post (gOf X T) W y m1 σ H1 (O.ok (U.d (D.int (-1))) S1) _
          intro m2 H2 E2 R2 k rk
          have rt := ((RUs.rts R2 (.cons (rv.ext E2) .nil) (show rds S1 [u] = some [.tup ds] by simp [rds, hd])).one)
          obtain ⟨v', ev, rt⟩ := rt
          cases ev
          obtain ⟨a, xs, rfl, sq, rs⟩ := rt.tup
          cases rk with
          | d rk =>
            cases rk
            have q2 := q1.ext E2 R2
            refine ⟨a, xs, rfl, rfl, sq, fun p1 hp1 => ?_⟩
            exact h5 m2 _ (E2.trans (Ext.new hp1)) (R2.new hp1) _ (.d (RV.newTup (rvs_rev rs) hp1 fun b hb => q2.trk b hb))
        · cases hz
      · exact h5.elim
    · exact h5.elim
end
end Mir

/-! Pl: plain laws of the mirrors' words: walks, comprehensions, equality. -/
namespace Mir
open PySem PySem.Spec PyProof.Rows L2
theorem lcL_pure {tg : Tg} {t : MT} {f : ME} {ρ0 : Env} {S : Sto} (g : D → D) : ∀ ds : List D, (∀ d ∈ ds, ∃ ρ, setT tg d ρ0 = some ρ ∧ t ρ S = .ok true S ∧ f ρ S = .ok (.d (g d)) S) → lcL tg t f ρ0 ds S = .ok (ds.map g) S
  | [], _ => rfl
  | d :: ds, h => by
    obtain ⟨ρ, h1, h2, h3⟩ := h d List.mem_cons_self
    have ih := lcL_pure g ds fun x hx => h x (List.mem_cons_of_mem _ hx)
    simp only [lcL, h1, h2, h3, ih, List.map_cons]
/-- what comes in, what goes out, row by row -/
theorem lcL_rows {tg : Tg} {t : MT} {f : ME} {ρ0 : Env} {S : Sto} : ∀ {ps : List (D × D)} {ds ys : List D}, ds = ps.map (·.1) → ys = ps.map (·.2) → (∀ p ∈ ps, ∃ ρ, setT tg p.1 ρ0 = some ρ ∧ t ρ S = .ok true S ∧ f ρ S = .ok (.d p.2) S) → lcL tg t f ρ0 ds S = .ok ys S
  | [], _, _, e1, e2, _ => by subst e1 e2; rfl
  | p :: ps, _, _, e1, e2, h => by
    subst e1 e2
    obtain ⟨ρ, h1, h2, h3⟩ := h p List.mem_cons_self
    have ih := lcL_rows (ps := ps) rfl rfl fun x hx => h x (List.mem_cons_of_mem _ hx)
    simp only [List.map_cons, lcL, h1, h2, h3, ih]
/-- a comprehension with a test, pure -/
theorem lcL_filter {tg : Tg} {t : MT} {f : ME} {ρ0 : Env} {S : Sto} (p : D → Bool) (g : D → D) : ∀ ds : List D, (∀ d ∈ ds, ∃ ρ, setT tg d ρ0 = some ρ ∧ t ρ S = .ok (p d) S ∧ (p d = true → f ρ S = .ok (.d (g d)) S)) → lcL tg t f ρ0 ds S = .ok ((ds.filter p).map g) S
  | [], _ => rfl
  | d :: ds, h => by
    obtain ⟨ρ, h1, h2, h3⟩ := h d List.mem_cons_self
    have ih := lcL_filter p g ds fun x hx => h x (List.mem_cons_of_mem _ hx)
    cases hp : p d with
    | true => simp only [lcL, h1, h2, hp, h3 hp, ih, List.filter_cons_of_pos, List.map_cons]
    | false => simp only [lcL, h1, h2, hp, ih, Bool.false_eq_true, not_false_eq_true, List.filter_cons_of_neg]
theorem lcL_inv {tg : Tg} {t : MT} {f : ME} {ρ0 : Env} (I : Sto → Prop) (Pr : D → Prop) : ∀ (ds : List D) (S : Sto), (∀ d ∈ ds, ∀ S, I S → ∃ ρ S1 y S2, setT tg d ρ0 = some ρ ∧ t ρ S = .ok true S1 ∧ f ρ S1 = .ok (.d y) S2 ∧ I S2 ∧ Pr y) → I S →
    ∃ ys S', lcL tg t f ρ0 ds S = .ok ys S' ∧ I S' ∧ ys.length = ds.length ∧ ∀ y ∈ ys, Pr y
  | [], S, _, hI => ⟨[], S, rfl, hI, rfl, fun _ h => by cases h⟩
  | d :: ds, S, h, hI => by
    obtain ⟨ρ, S1, y, S2, h1, h2, h3, h4, h5⟩ := h d List.mem_cons_self S hI
    obtain ⟨ys, S', h6, h7, h8, h9⟩ := lcL_inv I Pr ds S2 (fun x hx => h x (List.mem_cons_of_mem _ hx)) h4
    exact ⟨y :: ys, S', by simp only [lcL, h1, h2, h3, h6], h7, by simp [h8], fun z hz => by
      rcases List.mem_cons.mp hz with q | q
      · rw [q]; exact h5
      · exact h9 z q⟩
theorem forL_inv {g : MG} {f : MS} (I : Env → Sto → Prop) : ∀ (ds : List D) (ρ : Env) (S : Sto), (∀ d ∈ ds, ∀ ρ S, I ρ S → ∃ q ρ' S', g (.d d) ρ S = some q ∧ (f q.1 q.2 = .nx ρ' S' ∨ f q.1 q.2 = .ct ρ' S') ∧ I ρ' S') → I ρ S → ∃ ρ' S', forL g f ds ρ S = .nx ρ' S' ∧ I ρ' S'
  | [], ρ, S, _, hI => ⟨ρ, S, rfl, hI⟩
  | d :: ds, ρ, S, h, hI => by
    obtain ⟨q, ρ', S', h1, h2, h3⟩ := h d List.mem_cons_self ρ S hI
    obtain ⟨ρ2, S2, h4, h5⟩ := forL_inv I ds ρ' S' (fun x hx => h x (List.mem_cons_of_mem _ hx)) h3
    refine ⟨ρ2, S2, ?_, h5⟩
    rcases h2 with h2 | h2 <;> simp only [forL, h1, h2, h4]
/-- a loop that grows what it has, turn by turn -/
theorem forL_fold {α : Type} {g : MG} {f : MS} (I : α → Env → Sto → Prop) (step : α → D → α) : ∀ (ds : List D) (a : α) (ρ : Env) (S : Sto), (∀ d ∈ ds, ∀ a ρ S, I a ρ S → ∃ q ρ' S', g (.d d) ρ S = some q ∧ (f q.1 q.2 = .nx ρ' S' ∨ f q.1 q.2 = .ct ρ' S') ∧ I (step a d) ρ' S') → I a ρ S → ∃ ρ' S', forL g f ds ρ S = .nx ρ' S' ∧ I (ds.foldl step a) ρ' S'
  | [], a, ρ, S, _, hI => ⟨ρ, S, rfl, hI⟩
  | d :: ds, a, ρ, S, h, hI => by
    obtain ⟨q, ρ', S', h1, h2, h3⟩ := h d List.mem_cons_self a ρ S hI
    obtain ⟨ρ2, S2, h4, h5⟩ := forL_fold I step ds (step a d) ρ' S' (fun x hx => h x (List.mem_cons_of_mem _ hx)) h3
    refine ⟨ρ2, S2, ?_, h5⟩
    rcases h2 with h2 | h2 <;> simp only [forL, h1, h2, h4]
/-! ### equality -/
mutual
/-- data without truths, dicts, not deeper than n -/
def cl : Nat → D → Bool
  | _, .non => true
  | _, .int _ => true
  | _, .str x => PyData.strOk x
  | n + 1, .tup xs => cls n xs
  | n + 1, .lst xs => cls n xs
  | _, _ => false
def cls : Nat → List D → Bool
  | _, [] => true
  | n, x :: xs => cl n x && cls n xs
end
mutual
theorem cl_can : ∀ (n : Nat) (d : D), cl n d = true → PyData.canLay0 d.P = true ∧ d.P.depth ≤ n
  | n, .non, _ => ⟨rfl, Nat.zero_le _⟩
  | n, .int _, _ => ⟨rfl, Nat.zero_le _⟩
  | n, .str x, h => ⟨by cases n <;> simpa [cl, D.P, PyData.canLay0] using h, Nat.zero_le _⟩
  | 0, .tup xs, h => by simp [cl] at h
  | 0, .lst xs, h => by simp [cl] at h
  | n + 1, .tup xs, h => by
    have := cls_can n xs (by simpa [cl] using h)
    refine ⟨this.1, ?_⟩
    exact Nat.succ_le_succ this.2
  | n + 1, .lst xs, h => by
    have := cls_can n xs (by simpa [cl] using h)
    refine ⟨this.1, ?_⟩
    exact Nat.succ_le_succ this.2
  | 0, .bl _, h => by simp [cl] at h
  | n + 1, .bl _, h => by simp [cl] at h
  | 0, .dic _ _ _, h => by simp [cl] at h
  | n + 1, .dic _ _ _, h => by simp [cl] at h
  | 0, .scr _, h => by simp [cl] at h
  | n + 1, .scr _, h => by simp [cl] at h
theorem cls_can : ∀ (n : Nat) (ds : List D), cls n ds = true → PyData.canLayAll0 (Ps ds) = true ∧ PyData.depthAll (Ps ds) ≤ n
  | n, [], _ => ⟨rfl, Nat.zero_le _⟩
  | n, d :: ds, h => by
    have h' := Bool.and_eq_true_iff.mp (show (cl n d && cls n ds) = true from h)
    have a := cl_can n d h'.1
    have b := cls_can n ds h'.2
    refine ⟨?_, ?_⟩
    · simp [Ps, PyData.canLayAll0, a.1, b.1]
    · exact Nat.max_le.mpr ⟨a.2, b.2⟩
end
theorem cl_sh {n : Nat} {d : D} (h : cl n d = true) (hn : n ≤ 64) : sh d = true := by
  have := cl_can n d h
  unfold sh SeqAt.shaped
  rw [this.1, decide_eq_true (Nat.le_trans this.2 hn)]
  rfl
mutual
theorem cl_eq : ∀ (n m : Nat) (x y : D), cl n x = true → cl m y = true → (eqD x y = true ↔ x = y)
  | n, m, .non, y, _, hy => by cases y <;> simp_all [eqD, D.P, PyData.eqv, cl]
  | n, m, .int i, y, _, hy => by cases y <;> simp_all [eqD, D.P, PyData.eqv, cl]
  | n, m, .str i, y, _, hy => by cases y <;> simp_all [eqD, D.P, PyData.eqv, cl]
  | 0, _, .tup xs, _, h, _ => by simp [cl] at h
  | 0, _, .lst xs, _, h, _ => by simp [cl] at h
  | n + 1, m, .tup xs, y, h, hy => by
    cases y with
    | tup ys =>
      cases m with
      | zero => simp [cl] at hy
      | succ m =>
        have := cls_eq n m xs ys (by simpa [cl] using h) (by simpa [cl] using hy)
        simpa [eqD, D.P, PyData.eqv] using this
    | _ => simp_all [eqD, D.P, PyData.eqv, cl]
  | n + 1, m, .lst xs, y, h, hy => by
    cases y with
    | lst ys =>
      cases m with
      | zero => simp [cl] at hy
      | succ m =>
        have := cls_eq n m xs ys (by simpa [cl] using h) (by simpa [cl] using hy)
        simpa [eqD, D.P, PyData.eqv] using this
    | _ => simp_all [eqD, D.P, PyData.eqv, cl]
  | 0, _, .bl _, _, h, _ => by simp [cl] at h
  | n + 1, _, .bl _, _, h, _ => by simp [cl] at h
  | 0, _, .dic _ _ _, _, h, _ => by simp [cl] at h
  | n + 1, _, .dic _ _ _, _, h, _ => by simp [cl] at h
  | 0, _, .scr _, _, h, _ => by simp [cl] at h
  | n + 1, _, .scr _, _, h, _ => by simp [cl] at h
theorem cls_eq : ∀ (n m : Nat) (xs ys : List D), cls n xs = true → cls m ys = true → (PyData.eqvAll (Ps xs) (Ps ys) = true ↔ xs = ys)
  | _, _, [], [], _, _ => by simp [Ps, PyData.eqvAll]
  | _, _, [], y :: ys, _, _ => by simp [Ps, PyData.eqvAll]
  | _, _, x :: xs, [], _, _ => by simp [Ps, PyData.eqvAll]
  | n, m, x :: xs, y :: ys, h, h' => by
    have a := Bool.and_eq_true_iff.mp (show (cl n x && cls n xs) = true from h)
    have b := Bool.and_eq_true_iff.mp (show (cl m y && cls m ys) = true from h')
    have e1 := cl_eq n m x y a.1 b.1
    have e2 := cls_eq n m xs ys a.2 b.2
    have e1' : PyData.eqv x.P y.P = true ↔ x = y := e1
    simp [Ps, PyData.eqvAll, e1', e2]
end
theorem eqG_cl {n m : Nat} {x y : D} (hx : cl n x = true) (hy : cl m y = true) (hn : n ≤ 64 := by decide) (hm : m ≤ 64 := by decide) : eqG x y = some (.bl (eqD x y)) := by
  unfold eqG
  rw [cl_sh hx hn, cl_sh hy hm]
  rfl
theorem neG_cl {n m : Nat} {x y : D} (hx : cl n x = true) (hy : cl m y = true) (hn : n ≤ 64 := by decide) (hm : m ≤ 64 := by decide) : neG x y = some (.bl (!eqD x y)) := by
  unfold neG
  rw [cl_sh hx hn, cl_sh hy hm]
  rfl
theorem eqG_refl {n : Nat} {x : D} (hx : cl n x = true) (hn : n ≤ 64 := by decide) : eqG x x = some (.bl true) := by
  rw [eqG_cl hx hx hn hn, (cl_eq n n x x hx hx).mpr rfl]
theorem neG_refl {n : Nat} {x : D} (hx : cl n x = true) (hn : n ≤ 64 := by decide) : neG x x = some (.bl false) := by
  rw [neG_cl hx hx hn hn, (cl_eq n n x x hx hx).mpr rfl]
  rfl
theorem eqG_int (i j : Int) : eqG (.int i) (.int j) = some (.bl (i == j)) := rfl
theorem neG_int (i j : Int) : neG (.int i) (.int j) = some (.bl (!(i == j))) := rfl
theorem cls_ints {n : Nat} : ∀ b : List Int, cls n (b.map D.int) = true
  | [] => by simp [cls]
  | i :: b => by
    have := cls_ints (n := n) b
    cases n <;> simpa [cls, cl] using this
theorem cl_ints {n : Nat} (b : List Int) : cl (n + 1) (.tup (b.map D.int)) = true := cls_ints b
theorem cl_nil {n : Nat} : cl (n + 1) (.tup []) = true := rfl
theorem neG_nil {n : Nat} {xs : List D} (h : cl n (.tup xs) = true) (hn : n ≤ 64 := by decide) : neG (.tup xs) (.tup []) = some (.bl (!xs.isEmpty)) := by
  rw [neG_cl (n := n) (m := 1) h cl_nil hn (by decide)]
  cases xs with
  | nil => rfl
  | cons _ _ => rfl
/-! ### answers, looked at by evaluation -/
def isOk (r : R) (d : D) : Bool := match r with
  | .ok x => cl 9 x && cl 9 d && eqD x d
  | _ => false
theorem isOk_eq {r : R} {d : D} (h : isOk r d = true) : r = .ok d := by
  unfold isOk at h
  split at h
  · simp only [Bool.and_eq_true] at h
    rw [(cl_eq 9 9 _ _ h.1.1 h.1.2).mp h.2]
  · cases h
def isBl (r : R) (b : Bool) : Bool := match r with
  | .ok (.bl c) => c == b
  | _ => false
theorem isBl_eq {r : R} {b : Bool} (h : isBl r b = true) : r = .ok (.bl b) := by
  unfold isBl at h
  split at h
  · rw [beq_iff_eq.mp h]
  · cases h
end Mir

/-! Pm: plain laws of the mirrors' words, told by what stands at a name's place. -/
namespace Mir
open PySem PySem.Spec PyProof.Rows L2
theorem wipeE_len : ∀ (is : List Nat) (ρ : Env), (wipeE ρ is).length = ρ.length
  | [], _ => rfl
  | i :: is, ρ => by rw [wipeE, wipeE_len is, List.length_set]
theorem wipeE_at : ∀ (is : List Nat) (ρ : Env) (j : Nat), j ∉ is → (wipeE ρ is)[j]? = ρ[j]?
  | [], _, _, _ => rfl
  | i :: is, ρ, j, h => by
    simp only [List.mem_cons, not_or] at h
    rw [wipeE, wipeE_at is _ j h.2, List.getElem?_set_ne (fun z => h.1 z.symm)]
theorem set_ne {ρ : Env} {i j : Nat} {u : Option U} (h : i ≠ j) : (ρ.set i u)[j]? = ρ[j]? := List.getElem?_set_ne h
theorem set_eq {ρ : Env} {i : Nat} {u : Option U} (h : i < ρ.length) : (ρ.set i u)[i]? = some u := List.getElem?_set_self h
theorem var_at {ρ : Env} {S : Sto} {i : Nat} {u : U} (h : ρ[i]? = some (some u)) : varM i ρ S = .ok u S := by
  simp [varM, h]
/-! ### comprehensions -/
theorem lcM_rows {it : MI} {tg : Tg} {t : MT} {f : ME} {own : List Nat} {ρ : Env} {S S1 : Sto} {ds : List D} (g : D → D) (hi : it ρ S = .ok ds S1) (hl : ds.length ≤ big)
    (h : ∀ d ∈ ds, ∃ ρ', setT tg d (wipeE ρ own) = some ρ' ∧ t ρ' S1 = .ok true S1 ∧ f ρ' S1 = .ok (.d (g d)) S1) : lcM it tg t f own ρ S = .ok (.d (.lst (ds.map g))) S1 := by
  rw [lcM, hi]
  simp only [O.bind]
  rw [if_pos hl, lcL_pure g ds h]
theorem lcM_fil {it : MI} {tg : Tg} {t : MT} {f : ME} {own : List Nat} {ρ : Env} {S S1 : Sto} {ds : List D} (p : D → Bool) (g : D → D) (hi : it ρ S = .ok ds S1) (hl : ds.length ≤ big)
    (h : ∀ d ∈ ds, ∃ ρ', setT tg d (wipeE ρ own) = some ρ' ∧ t ρ' S1 = .ok (p d) S1 ∧ (p d = true → f ρ' S1 = .ok (.d (g d)) S1)) : lcM it tg t f own ρ S = .ok (.d (.lst ((ds.filter p).map g))) S1 := by
  rw [lcM, hi]
  simp only [O.bind]
  rw [if_pos hl, lcL_filter p g ds h]
theorem lcM_inv {it : MI} {tg : Tg} {t : MT} {f : ME} {own : List Nat} {ρ : Env} {S S1 : Sto} {ds : List D} (I : Sto → Prop) (Pr : D → Prop) (hi : it ρ S = .ok ds S1) (hl : ds.length ≤ big)
    (h : ∀ d ∈ ds, ∀ S, I S → ∃ ρ' S2 y S3, setT tg d (wipeE ρ own) = some ρ' ∧ t ρ' S = .ok true S2 ∧ f ρ' S2 = .ok (.d y) S3 ∧ I S3 ∧ Pr y) (hI : I S1) :
    ∃ ys S', lcM it tg t f own ρ S = .ok (.d (.lst ys)) S' ∧ I S' ∧ ys.length = ds.length ∧ ∀ y ∈ ys, Pr y := by
  obtain ⟨ys, S', h1, h2, h3, h4⟩ := lcL_inv (tg := tg) (t := t) (f := f) (ρ0 := wipeE ρ own) I Pr ds S1 h hI
  refine ⟨ys, S', ?_, h2, h3, h4⟩
  rw [lcM, hi]
  simp only [O.bind]
  rw [if_pos hl, h1]
/-- nothing that is drawn on: by a map of what comes -/
theorem lcM_map {α : Type} {it : MI} {tg : Tg} {t : MT} {f : ME} {own : List Nat} {ρ : Env} {S S1 : Sto} {xs : List α} (a : α → D) (b : α → D) (hi : it ρ S = .ok (xs.map a) S1) (hl : xs.length ≤ big)
    (h : ∀ x ∈ xs, ∃ ρ', setT tg (a x) (wipeE ρ own) = some ρ' ∧ t ρ' S1 = .ok true S1 ∧ f ρ' S1 = .ok (.d (b x)) S1) : lcM it tg t f own ρ S = .ok (.d (.lst (xs.map b))) S1 := by
  rw [lcM, hi]
  simp only [O.bind]
  rw [if_pos (by rw [List.length_map]; exact hl), lcL_rows (ps := xs.map fun x => (a x, b x)) (ds := xs.map a) (ys := xs.map b) (by simp [Function.comp_def]) (by simp [Function.comp_def]) (fun p hp => by
    obtain ⟨x, hx, rfl⟩ := List.mem_map.mp hp
    exact h x hx)]
theorem lcL_mapf {α : Type} {tg : Tg} {t : MT} {f : ME} {ρ0 : Env} {S : Sto} (a : α → D) (p : α → Bool) (b : α → D) : ∀ xs : List α, (∀ x ∈ xs, ∃ ρ, setT tg (a x) ρ0 = some ρ ∧ t ρ S = .ok (p x) S ∧ (p x = true → f ρ S = .ok (.d (b x)) S)) → lcL tg t f ρ0 (xs.map a) S = .ok ((xs.filter p).map b) S
  | [], _ => rfl
  | x :: xs, h => by
    obtain ⟨ρ, h1, h2, h3⟩ := h x List.mem_cons_self
    have ih := lcL_mapf a p b xs fun y hy => h y (List.mem_cons_of_mem _ hy)
    cases hp : p x with
    | true => simp only [List.map_cons, lcL, h1, h2, hp, h3 hp, ih, List.filter_cons_of_pos]
    | false => simp only [List.map_cons, lcL, h1, h2, hp, ih, Bool.false_eq_true, not_false_eq_true, List.filter_cons_of_neg]
theorem lcM_mapf {α : Type} {it : MI} {tg : Tg} {t : MT} {f : ME} {own : List Nat} {ρ : Env} {S S1 : Sto} {xs : List α} (a : α → D) (p : α → Bool) (b : α → D) (hi : it ρ S = .ok (xs.map a) S1) (hl : xs.length ≤ big)
    (h : ∀ x ∈ xs, ∃ ρ', setT tg (a x) (wipeE ρ own) = some ρ' ∧ t ρ' S1 = .ok (p x) S1 ∧ (p x = true → f ρ' S1 = .ok (.d (b x)) S1)) : lcM it tg t f own ρ S = .ok (.d (.lst ((xs.filter p).map b))) S1 := by
  rw [lcM, hi]
  simp only [O.bind]
  rw [if_pos (by rw [List.length_map]; exact hl), lcL_mapf a p b xs h]
/-! ### for -/
theorem forM_nx {it : MI} {g : MG} {f : MS} {ρ : Env} {S S1 : Sto} {ds : List D} {o : SO} (hi : it ρ S = .ok ds S1) (h : forL g f ds ρ S1 = o) : forM it g f ρ S = o := by
  rw [forM, hi]
  exact h
/-- a loop that grows what it has; what comes is xs -/
theorem forL_map {α β : Type} {g : MG} {f : MS} (a : α → D) (I : β → Env → Sto → Prop) (step : β → α → β) : ∀ (xs : List α) (b : β) (ρ : Env) (S : Sto), (∀ x ∈ xs, ∀ b ρ S, I b ρ S → ∃ q ρ' S', g (.d (a x)) ρ S = some q ∧ (f q.1 q.2 = .nx ρ' S' ∨ f q.1 q.2 = .ct ρ' S') ∧ I (step b x) ρ' S') → I b ρ S →
    ∃ ρ' S', forL g f (xs.map a) ρ S = .nx ρ' S' ∧ I (xs.foldl step b) ρ' S'
  | [], b, ρ, S, _, hI => ⟨ρ, S, rfl, hI⟩
  | x :: xs, b, ρ, S, h, hI => by
    obtain ⟨q, ρ', S', h1, h2, h3⟩ := h x List.mem_cons_self b ρ S hI
    obtain ⟨ρ2, S2, h4, h5⟩ := forL_map a I step xs (step b x) ρ' S' (fun y hy => h y (List.mem_cons_of_mem _ hy)) h3
    refine ⟨ρ2, S2, ?_, h5⟩
    rcases h2 with h2 | h2 <;> simp only [List.map_cons, forL, h1, h2, h4]
/-- the same, where the turn's place in the walk is told -/
theorem forL_ix {β : Type} {g : MG} {f : MS} (I : Nat → Env → Sto → Prop) (ds : List D) : ∀ (n : Nat), (∀ i d, i < n → ds[i]? = some d → ∀ ρ S, I i ρ S → ∃ q ρ' S', g (.d d) ρ S = some q ∧ (f q.1 q.2 = .nx ρ' S' ∨ f q.1 q.2 = .ct ρ' S') ∧ I (i + 1) ρ' S') → ∀ (k : Nat), k ≤ n → n = ds.length → ∀ ρ S, I k ρ S →
    ∃ ρ' S', forL g f (ds.drop k) ρ S = .nx ρ' S' ∧ I n ρ' S' := by
  intro n h k hk hn
  obtain ⟨j, hj⟩ : ∃ j, n - k = j := ⟨_, rfl⟩
  induction j generalizing k with
  | zero =>
    intro ρ S hI
    have e : k = n := by omega
    subst e
    rw [List.drop_eq_nil_of_le (by omega)]
    exact ⟨ρ, S, rfl, hI⟩
  | succ j ih =>
    intro ρ S hI
    have hlt : k < ds.length := by omega
    obtain ⟨q, ρ', S', h1, h2, h3⟩ := h k ds[k] (by omega) (List.getElem?_eq_getElem hlt) ρ S hI
    obtain ⟨ρ2, S2, h4, h5⟩ := ih (k + 1) (by omega) (by omega) ρ' S' h3
    refine ⟨ρ2, S2, ?_, h5⟩
    rw [List.drop_eq_getElem_cons hlt]
    rcases h2 with h2 | h2 <;> simp only [forL, h1, h2, h4]
/-! ### while -/
theorem whM_true {t : MT} {f : MS} {ρ ρ' : Env} {S S1 S' : Sto} (h1 : t ρ S = .ok true S1) (h2 : f ρ S1 = .nx ρ' S' ∨ f ρ S1 = .ct ρ' S') : whM t f ρ S = whM t f ρ' S' := by
  have step : ∀ n, whN t f (n + 1) ρ S = whN t f n ρ' S' := fun n => by
    rw [whN, h1]
    rcases h2 with h2 | h2 <;> simp only [h2]
  by_cases h : ∃ n, whN t f n ρ' S' ≠ .un
  · obtain ⟨n, hn⟩ := h
    rw [whM_eq (n := n) hn, whM_eq (n := n + 1) (by rw [step]; exact hn), step]
  · have h' : ¬ ∃ n, whN t f n ρ S ≠ .un := fun ⟨n, hn⟩ => by
      cases n with
      | zero => exact hn rfl
      | succ n => exact h ⟨n, by rw [← step]; exact hn⟩
    rw [whM, whM, dif_neg h, dif_neg h']
theorem whM_false {t : MT} {f : MS} {ρ : Env} {S S' : Sto} (h : t ρ S = .ok false S') : whM t f ρ S = .nx ρ S' := by
  have e : whN t f 1 ρ S = .nx ρ S' := by rw [whN, h]
  rw [whM_eq (n := 1) (by rw [e]; intro z; cases z), e]
theorem whM_ret {t : MT} {f : MS} {ρ : Env} {S S1 S' : Sto} {u : U} (h1 : t ρ S = .ok true S1) (h2 : f ρ S1 = .rt u S') : whM t f ρ S = .rt u S' := by
  have e : whN t f 1 ρ S = .rt u S' := by rw [whN, h1]; simp only [h2]
  rw [whM_eq (n := 1) (by rw [e]; intro z; cases z), e]
end Mir


/-! Sg: signs as maps of pairs of truths; how two are put together; in any order. -/
namespace Sg
abbrev B2 := Bool × Bool
def le (x y : B2) : Prop := (x.1 = true → y.1 = true) ∧ (x.2 = true → y.2 = true)
theorem le_refl (x : B2) : le x x := ⟨id, id⟩
theorem le_trans {x y z : B2} (h : le x y) (h' : le y z) : le x z := ⟨fun a => h'.1 (h.1 a), fun a => h'.2 (h.2 a)⟩
theorem le_anti {x y : B2} (h : le x y) (h' : le y x) : x = y := by
  obtain ⟨a, b⟩ := x
  obtain ⟨c, d⟩ := y
  obtain ⟨h1, h2⟩ := h
  obtain ⟨h3, h4⟩ := h'
  cases a <;> cases b <;> cases c <;> cases d <;> simp_all
def bot : B2 := (false, false)
theorem bot_le (x : B2) : le bot x := ⟨fun h => absurd h Bool.false_ne_true, fun h => absurd h Bool.false_ne_true⟩
/-- the least fixed point, reached in two steps -/
def fx (G : B2 → B2) : B2 := G (G bot)
def Mon (G : B2 → B2) : Prop := ∀ x y, le x y → le (G x) (G y)
theorem fx_fix {G : B2 → B2} (m : Mon G) : G (fx G) = fx G := by
  unfold fx
  have h1 : le bot (G bot) := bot_le _
  have h2 : le (G bot) (G (G bot)) := m _ _ h1
  have h3 : le (G (G bot)) (G (G (G bot))) := m _ _ h2
  by_cases e1 : G bot = bot
  · rw [e1, e1, e1]
  by_cases e2 : G (G bot) = G bot
  · rw [e2, e2]
  -- two steps up are the top
  have top : G (G bot) = (true, true) := by
    revert h1 h2 e1 e2
    generalize G bot = x
    generalize G x = y
    intro h1 h2 e1 e2
    obtain ⟨a, b⟩ := x
    obtain ⟨c, d⟩ := y
    obtain ⟨h3, h4⟩ := h2
    cases a <;> cases b <;> cases c <;> cases d <;> simp_all [bot]
  rw [top] at h3 ⊢
  obtain ⟨h4, h5⟩ := h3
  exact Prod.ext (h4 rfl) (h5 rfl)
theorem fx_least {G : B2 → B2} (m : Mon G) {p : B2} (h : le (G p) p) : le (fx G) p :=
  le_trans (m _ _ (le_trans (m _ _ (bot_le p)) h)) h
theorem fx_mono {G G' : B2 → B2} (m : Mon G) (m' : Mon G') (h : ∀ x, le (G x) (G' x)) : le (fx G) (fx G') :=
  fx_least m (le_trans (h _) (by rw [fx_fix m']; exact le_refl _))
/-- what a stretch makes of its doors: left doors, right doors -/
structure S where
  L : B2 → B2 → B2
  R : B2 → B2 → B2
theorem S.ext' {a b : S} (h : a.L = b.L) (h' : a.R = b.R) : a = b := by
  cases a; cases b
  cases h; cases h'
  rfl
structure S.Mon (s : S) : Prop where
  l : ∀ {x x' y y' : B2}, le x x' → le y y' → le (s.L x y) (s.L x' y')
  r : ∀ {x x' y y' : B2}, le x x' → le y y' → le (s.R x y) (s.R x' y')
/-- the inner doors: what the left one gives to the right one -/
def mid (s t : S) (x y : B2) : B2 → B2 := fun b => s.R x (t.L b y)
def bk (s t : S) (x y : B2) : B2 := fx (mid s t x y)
def join (s t : S) : S where
  L := fun x y => s.L x (t.L (bk s t x y) y)
  R := fun x y => t.R (bk s t x y) y
section
variable {s t : S}
theorem mid_mon (hs : s.Mon) (ht : t.Mon) (x y : B2) : Mon (mid s t x y) := fun _ _ h => hs.r (le_refl _) (ht.l h (le_refl _))
theorem bk_mono (hs : s.Mon) (ht : t.Mon) {x x' y y' : B2} (h : le x x') (h' : le y y') : le (bk s t x y) (bk s t x' y') :=
  fx_mono (mid_mon hs ht x y) (mid_mon hs ht x' y') fun _ => hs.r h (ht.l (le_refl _) h')
theorem join_mon (hs : s.Mon) (ht : t.Mon) : (join s t).Mon :=
  ⟨fun h h' => hs.l h (ht.l (bk_mono hs ht h h') h'), fun h h' => ht.r (bk_mono hs ht h h') h'⟩
end
/-! ### three of them -/
section
variable {A B C : S}
/-- the doors between A and B, between B and C -/
structure Sol (A B C : S) (x z : B2) (i1 b1 i2 b2 : B2) : Prop where
  e1 : B.L b1 i2 = i1
  e2 : A.R x i1 = b1
  e3 : C.L b2 z = i2
  e4 : B.R b1 i2 = b2
def Least (A B C : S) (x z : B2) (i1 b1 i2 b2 : B2) : Prop := ∀ j1 c1 j2 c2, Sol A B C x z j1 c1 j2 c2 → le i1 j1 ∧ le b1 c1 ∧ le i2 j2 ∧ le b2 c2
theorem sol_left (hA : A.Mon) (hB : B.Mon) (hC : C.Mon) (x z : B2) :
    let b2 := bk (join A B) C x z
    let i2 := C.L b2 z
    let b1 := bk A B x i2
    Sol A B C x z (B.L b1 i2) b1 i2 b2 ∧ Least A B C x z (B.L b1 i2) b1 i2 b2 := by
  intro b2 i2 b1
  have hJ := join_mon hA hB
  refine ⟨⟨rfl, fx_fix (mid_mon hA hB x i2), rfl, ?_⟩, fun j1 c1 j2 c2 s => ?_⟩
  · exact fx_fix (mid_mon hJ hC x z)
  · have h2 : le b2 c2 := by
      refine fx_least (mid_mon hJ hC x z) ?_
      show le (B.R (bk A B x (C.L c2 z)) (C.L c2 z)) c2
      rw [s.e3]
      have : le (bk A B x j2) c1 := fx_least (mid_mon hA hB x j2) (by
        show le (A.R x (B.L c1 j2)) c1
        rw [s.e1, s.e2]; exact le_refl _)
      have q := hB.r this (le_refl j2)
      rw [s.e4] at q
      exact q
    have h3 : le i2 j2 := by
      have q := hC.l h2 (le_refl z)
      rw [s.e3] at q
      exact q
    have h4 : le b1 c1 := by
      refine fx_least (mid_mon hA hB x i2) ?_
      show le (A.R x (B.L c1 i2)) c1
      have q := hA.r (le_refl x) (hB.l (le_refl c1) h3)
      rw [s.e1, s.e2] at q
      exact q
    refine ⟨?_, h4, h3, h2⟩
    have q := hB.l h4 h3
    rw [s.e1] at q
    exact q
theorem sol_right (hA : A.Mon) (hB : B.Mon) (hC : C.Mon) (x z : B2) :
    let b1 := bk A (join B C) x z
    let b2 := bk B C b1 z
    let i2 := C.L b2 z
    Sol A B C x z (B.L b1 i2) b1 i2 b2 ∧ Least A B C x z (B.L b1 i2) b1 i2 b2 := by
  intro b1 b2 i2
  have hJ := join_mon hB hC
  refine ⟨⟨rfl, fx_fix (mid_mon hA hJ x z), rfl, fx_fix (mid_mon hB hC b1 z)⟩, fun j1 c1 j2 c2 s => ?_⟩
  have inner : le (bk B C c1 z) c2 := fx_least (mid_mon hB hC c1 z) (by
    show le (B.R c1 (C.L c2 z)) c2
    rw [s.e3, s.e4]; exact le_refl _)
  have h1 : le b1 c1 := by
    refine fx_least (mid_mon hA hJ x z) ?_
    show le (A.R x (B.L c1 (C.L (bk B C c1 z) z))) c1
    have q1 := hC.l inner (le_refl z)
    rw [s.e3] at q1
    have q := hA.r (le_refl x) (hB.l (le_refl c1) q1)
    rw [s.e1, s.e2] at q
    exact q
  have h2 : le b2 c2 := le_trans (bk_mono hB hC h1 (le_refl z)) inner
  have h3 : le i2 j2 := by
    have q := hC.l h2 (le_refl z)
    rw [s.e3] at q
    exact q
  refine ⟨?_, h1, h3, h2⟩
  have q := hB.l h1 h3
  rw [s.e1] at q
  exact q
theorem join_assoc (hA : A.Mon) (hB : B.Mon) (hC : C.Mon) : join (join A B) C = join A (join B C) := by
  have key : ∀ x z, bk (join A B) C x z = bk B C (bk A (join B C) x z) z ∧ bk A B x (C.L (bk (join A B) C x z) z) = bk A (join B C) x z := fun x z => by
    obtain ⟨s1, l1⟩ := sol_left hA hB hC x z
    obtain ⟨s2, l2⟩ := sol_right hA hB hC x z
    obtain ⟨_, a2, _, a4⟩ := l1 _ _ _ _ s2
    obtain ⟨_, b2, _, b4⟩ := l2 _ _ _ _ s1
    exact ⟨le_anti a4 b4, le_anti a2 b2⟩
  have eL : (join (join A B) C).L = (join A (join B C)).L := by
    funext x z
    obtain ⟨k1, k2⟩ := key x z
    show A.L x (B.L (bk A B x (C.L (bk (join A B) C x z) z)) (C.L (bk (join A B) C x z) z)) = A.L x (B.L (bk A (join B C) x z) (C.L (bk B C (bk A (join B C) x z) z) z))
    rw [k2, k1]
  have eR : (join (join A B) C).R = (join A (join B C)).R := by
    funext x z
    obtain ⟨k1, _⟩ := key x z
    show C.R (bk (join A B) C x z) z = C.R (bk B C (bk A (join B C) x z) z) z
    rw [k1]
  exact S.ext' eL eR
/-- nothing between the doors -/
def one : S where
  L := fun _ y => y
  R := fun x _ => x
theorem one_mon : one.Mon := ⟨fun _ h => h, fun h _ => h⟩
theorem one_join (s : S) : join one s = s := by
  have k : ∀ x y, bk one s x y = x := fun x y => rfl
  show S.mk _ _ = S.mk _ _
  congr 1
theorem join_one (hs : A.Mon) : join A one = A := by
  have k : ∀ x y, bk A one x y = A.R x y := fun x y => rfl
  show S.mk _ _ = S.mk _ _
  congr 1
end
/-- the doors in between, step by step at the same time: the least answer of both -/
theorem both_least {s t : S} (hs : s.Mon) (ht : t.Mon) {x y i b : B2} (h1 : t.L b y = i) (h2 : s.R x i = b) (hl : ∀ j c, t.L c y = j → s.R x j = c → le i j ∧ le b c) : b = bk s t x y ∧ i = t.L (bk s t x y) y := by
  have fixp : s.R x (t.L (bk s t x y) y) = bk s t x y := fx_fix (mid_mon hs ht x y)
  have e : b = bk s t x y := by
    refine le_anti (hl _ _ rfl fixp).2 (fx_least (mid_mon hs ht x y) ?_)
    show le (s.R x (t.L b y)) b
    rw [h1, h2]; exact le_refl _
  exact ⟨e, by rw [← e, h1]⟩
end Sg

/-! Gm: the stone on a row of cells: from where a player can force it; a stretch's sign is that; rows side by side. -/
namespace Gm
open Sg
inductive Way | l | r | s
  deriving DecidableEq, Inhabited
abbrev Kind := List Way × List Way
def dl : Way → Int
  | .l => -1
  | .r => 1
  | .s => 0
/-- players: false is the first one -/
def ways (k : Kind) (m : Bool) : List Way := if m = true then k.2 else k.1
def sel (x : B2) (m : Bool) : Bool := if m = true then x.2 else x.1
theorem sel_le {x y : B2} (h : le x y) (m : Bool) : sel x m = true → sel y m = true := by
  cases m
  · exact h.1
  · exact h.2
theorem le_sel {x y : B2} (h : ∀ m, sel x m = true → sel y m = true) : le x y := ⟨h false, h true⟩
theorem sel_ext {x y : B2} (h : ∀ m, sel x m = sel y m) : x = y := Prod.ext (h false) (h true)
/-- w can force it from a place, m moving; x, y: what is good outside, at the left, at the right -/
inductive Win (row : List Kind) (w : Bool) (x y : B2) : Int → Bool → Prop
  | outL {p : Int} {m : Bool} : p < 0 → sel x m = true → Win row w x y p m
  | outR {p : Int} {m : Bool} : (row.length : Int) ≤ p → sel y m = true → Win row w x y p m
  | mine {p : Nat} {k : Kind} {v : Way} : row[p]? = some k → v ∈ ways k w → Win row w x y (p + dl v) (!w) → Win row w x y p w
  | yours {p : Nat} {k : Kind} {m : Bool} : row[p]? = some k → m ≠ w → (∀ v ∈ ways k m, Win row w x y (p + dl v) (!m)) → Win row w x y p m
section
variable {row : List Kind} {w : Bool} {x y x' y' : B2}
/-- what is forced on a cell: f tells what is behind each way -/
def frc (k : Kind) (w m : Bool) (f : Way → Bool) : Bool := if m = w then (ways k m).any f else (ways k m).all f
theorem frc_mono {k : Kind} {w m : Bool} {f g : Way → Bool} (h : ∀ v, f v = true → g v = true) : frc k w m f = true → frc k w m g = true := by
  unfold frc
  split
  · simp only [List.any_eq_true]
    exact fun ⟨v, a, b⟩ => ⟨v, a, h v b⟩
  · simp only [List.all_eq_true]
    exact fun q v a => h v (q v a)
theorem frc_congr {k : Kind} {w m : Bool} {f g : Way → Bool} (h : ∀ v, f v = g v) : frc k w m f = frc k w m g := by
  have : f = g := funext h
  rw [this]
open Classical in
noncomputable def winB (row : List Kind) (w : Bool) (x y : B2) (p : Int) (m : Bool) : Bool := decide (Win row w x y p m)
theorem winB_iff {p : Int} {m : Bool} : winB row w x y p m = true ↔ Win row w x y p m := by
  classical
  unfold winB
  exact decide_eq_true_iff
theorem Win.in_ {p : Nat} {m : Bool} {k : Kind} (hk : row[p]? = some k) : Win row w x y p m ↔ frc k w m (fun v => winB row w x y (p + dl v) (!m)) = true := by
  unfold frc
  constructor
  · intro h
    generalize hq : (p : Int) = q at h
    cases h with
    | outL h _ => omega
    | outR h _ => have := (List.getElem?_eq_some_iff.mp hk).1; omega
    | @mine p' k' v h1 h2 h3 =>
      have : p = p' := by omega
      subst this
      rw [hk] at h1
      cases h1
      rw [if_pos rfl, List.any_eq_true]
      exact ⟨v, h2, winB_iff.mpr h3⟩
    | @yours p' k' m h1 h2 h3 =>
      have : p = p' := by omega
      subst this
      rw [hk] at h1
      cases h1
      rw [if_neg h2, List.all_eq_true]
      exact fun v hv => winB_iff.mpr (h3 v hv)
  · intro h
    by_cases hm : m = w
    · subst hm
      rw [if_pos rfl, List.any_eq_true] at h
      obtain ⟨v, h1, h2⟩ := h
      exact .mine hk h1 (winB_iff.mp h2)
    · rw [if_neg hm, List.all_eq_true] at h
      exact .yours hk hm fun v hv => winB_iff.mp (h v hv)
theorem Win.atL {p : Int} {m : Bool} (h : p < 0) : Win row w x y p m ↔ sel x m = true := by
  constructor
  · intro q
    cases q with
    | outL _ h' => exact h'
    | outR h' _ => omega
    | mine h1 _ _ => omega
    | yours h1 _ _ => omega
  · exact .outL h
theorem Win.atR {p : Int} {m : Bool} (h : (row.length : Int) ≤ p) : Win row w x y p m ↔ sel y m = true := by
  constructor
  · intro q
    cases q with
    | outL h' _ => omega
    | outR _ h' => exact h'
    | mine h1 _ _ => have := (List.getElem?_eq_some_iff.mp h1).1; omega
    | yours h1 _ _ => have := (List.getElem?_eq_some_iff.mp h1).1; omega
  · exact .outR h
/-- the least: whatever is closed holds wherever it is forced -/
theorem Win.least {Q : Int → Bool → Prop} (hL : ∀ p m, p < 0 → sel x m = true → Q p m) (hR : ∀ p m, (row.length : Int) ≤ p → sel y m = true → Q p m)
    (hM : ∀ (p : Nat) (k : Kind) (v : Way), row[p]? = some k → v ∈ ways k w → Q (p + dl v) (!w) → Q p w)
    (hY : ∀ (p : Nat) (k : Kind) (m : Bool), row[p]? = some k → m ≠ w → (∀ v ∈ ways k m, Q (p + dl v) (!m)) → Q p m) {p : Int} {m : Bool} (h : Win row w x y p m) : Q p m := by
  induction h with
  | outL a b => exact hL _ _ a b
  | outR a b => exact hR _ _ a b
  | mine a b _ ih => exact hM _ _ _ a b ih
  | yours a b _ ih => exact hY _ _ _ a b ih
/-- the same, told by frc -/
theorem Win.least' {q : Int → Bool → Bool} (hL : ∀ p m, p < 0 → sel x m = true → q p m = true) (hR : ∀ p m, (row.length : Int) ≤ p → sel y m = true → q p m = true)
    (hI : ∀ (p : Nat) (k : Kind) (m : Bool), row[p]? = some k → frc k w m (fun v => q (p + dl v) (!m)) = true → q p m = true) {p : Int} {m : Bool} (h : Win row w x y p m) : q p m = true :=
  Win.least (Q := fun p m => q p m = true) hL hR (fun p k v a b c => hI p k w a (by unfold frc; rw [if_pos rfl, List.any_eq_true]; exact ⟨v, b, c⟩)) (fun p k m a b c => hI p k m a (by unfold frc; rw [if_neg b, List.all_eq_true]; exact c)) h
theorem Win.mono (hx : le x x') (hy : le y y') {p : Int} {m : Bool} (h : Win row w x y p m) : Win row w x' y' p m :=
  Win.least (Q := Win row w x' y') (fun _ m a b => .outL a (sel_le hx m b)) (fun _ m a b => .outR a (sel_le hy m b)) (fun _ _ _ a b c => .mine a b c) (fun _ _ _ a b c => .yours a b c) h
end
/-- both movers at a place -/
noncomputable def at2 (row : List Kind) (w : Bool) (x y : B2) (p : Int) : B2 := (winB row w x y p false, winB row w x y p true)
theorem sel_at2 {row : List Kind} {w : Bool} {x y : B2} {p : Int} (m : Bool) : sel (at2 row w x y p) m = winB row w x y p m := by
  cases m <;> rfl
/-- the sign of a row -/
noncomputable def sgn (row : List Kind) (w : Bool) : Sg.S where
  L := fun x y => at2 row w x y 0
  R := fun x y => at2 row w x y ((row.length : Int) - 1)
theorem at2_mono {row : List Kind} {w : Bool} {x y x' y' : B2} (hx : le x x') (hy : le y y') (p : Int) : le (at2 row w x y p) (at2 row w x' y' p) :=
  le_sel fun m h => by
    rw [sel_at2] at h ⊢
    exact winB_iff.mpr ((winB_iff.mp h).mono hx hy)
theorem sgn_mon (row : List Kind) (w : Bool) : (sgn row w).Mon := ⟨fun h h' => at2_mono h h' _, fun h h' => at2_mono h h' _⟩
theorem at2_L {row : List Kind} {w : Bool} {x y : B2} {p : Int} (h : p < 0) : at2 row w x y p = x := sel_ext fun m => by
  rw [sel_at2, Bool.eq_iff_iff, winB_iff, Win.atL h]
theorem at2_R {row : List Kind} {w : Bool} {x y : B2} {p : Int} (h : (row.length : Int) ≤ p) : at2 row w x y p = y := sel_ext fun m => by
  rw [sel_at2, Bool.eq_iff_iff, winB_iff, Win.atR h]
theorem sgn_nil (w : Bool) : sgn [] w = Sg.one := by
  refine Sg.S.ext' ?_ ?_
  · funext x y
    exact at2_R (by simp)
  · funext x y
    exact at2_L (by simp)
/-! ### parts of a row -/
section
variable {A B : List Kind} {w : Bool} {x y : B2}
theorem get_left {p : Nat} {k : Kind} (h : A[p]? = some k) : (A ++ B)[p]? = some k := by
  rw [List.getElem?_append_left (List.getElem?_eq_some_iff.mp h).1]; exact h
theorem dl_le (v : Way) : dl v ≤ 1 ∧ -1 ≤ dl v := by cases v <;> decide
/-- the left part, told by what is at the first place of the right one -/
theorem part_left {p : Int} (hp : p < A.length) (m : Bool) : Win (A ++ B) w x y p m ↔ Win A w x (at2 (A ++ B) w x y A.length) p m := by
  have hlen : ((A ++ B).length : Int) = A.length + B.length := by simp
  constructor
  · intro h
    have key : p < A.length → Win A w x (at2 (A ++ B) w x y A.length) p m := by
      refine Win.least (Q := fun p m => (p < A.length → Win A w x (at2 (A ++ B) w x y A.length) p m) ∧ Win (A ++ B) w x y p m) ?_ ?_ ?_ ?_ h |>.1
      · exact fun p m a b => ⟨fun _ => .outL a b, .outL a b⟩
      · exact fun p m a b => ⟨fun h => by omega, .outR a b⟩
      · intro p k v a b c
        refine ⟨fun hp => ?_, .mine a b c.2⟩
        have a' : A[p]? = some k := by rw [List.getElem?_append_left (by omega)] at a; exact a
        refine .mine a' b ?_
        by_cases hq : (p : Int) + dl v < A.length
        · exact c.1 hq
        · have := dl_le v
          have e : (p : Int) + dl v = A.length := by omega
          refine .outR (by omega) ?_
          rw [sel_at2, ← e]
          exact winB_iff.mpr c.2
      · intro p k m a b c
        refine ⟨fun hp => ?_, .yours a b fun v hv => (c v hv).2⟩
        have a' : A[p]? = some k := by rw [List.getElem?_append_left (by omega)] at a; exact a
        refine .yours a' b fun v hv => ?_
        by_cases hq : (p : Int) + dl v < A.length
        · exact (c v hv).1 hq
        · have := dl_le v
          have e : (p : Int) + dl v = A.length := by omega
          refine .outR (by omega) ?_
          rw [sel_at2, ← e]
          exact winB_iff.mpr (c v hv).2
    exact key hp
  · intro h
    have key : p ≤ A.length → Win (A ++ B) w x y p m := by
      refine Win.least (Q := fun p m => p ≤ A.length → Win (A ++ B) w x y p m) ?_ ?_ ?_ ?_ h
      · exact fun p m a b _ => .outL a b
      · intro p m a b c
        have e : p = A.length := by omega
        rw [sel_at2, winB_iff, ← e] at b
        exact b
      · intro p k v a b c _
        have := dl_le v
        have := (List.getElem?_eq_some_iff.mp a).1
        exact .mine (get_left a) b (c (by omega))
      · intro p k m a b c _
        have := (List.getElem?_eq_some_iff.mp a).1
        exact .yours (get_left a) b fun v hv => c v hv (by have := dl_le v; omega)
    exact key (by omega)
/-- the right part -/
theorem part_right {p : Int} (hp : 0 ≤ p) (m : Bool) : Win (A ++ B) w x y (A.length + p) m ↔ Win B w (at2 (A ++ B) w x y ((A.length : Int) - 1)) y p m := by
  have hlen : ((A ++ B).length : Int) = A.length + B.length := by simp
  constructor
  · intro h
    generalize hq : (A.length : Int) + p = q at h
    have key : ∀ r : Int, 0 ≤ r → A.length + r = q → Win B w (at2 (A ++ B) w x y ((A.length : Int) - 1)) y r m := by
      refine Win.least (Q := fun q m => (∀ r : Int, 0 ≤ r → A.length + r = q → Win B w (at2 (A ++ B) w x y ((A.length : Int) - 1)) y r m) ∧ Win (A ++ B) w x y q m) ?_ ?_ ?_ ?_ h |>.1
      · exact fun p m a b => ⟨fun r _ _ => by omega, .outL a b⟩
      · exact fun p m a b => ⟨fun r _ _ => .outR (by omega) b, .outR a b⟩
      · intro p k v a b c
        refine ⟨fun r h0 hr => ?_, .mine a b c.2⟩
        obtain ⟨n, rfl⟩ : ∃ n : Nat, r = n := ⟨r.toNat, by omega⟩
        have e : p = A.length + n := by omega
        subst e
        have a' : B[n]? = some k := by rw [List.getElem?_append_right (by omega)] at a; rw [← a]; congr 1; omega
        refine .mine a' b ?_
        by_cases hz : 0 ≤ (n : Int) + dl v
        · exact c.1 _ hz (by omega)
        · have := dl_le v
          refine .outL (by omega) ?_
          rw [sel_at2, winB_iff]
          have e : (A.length : Int) - 1 = ((A.length + n : Nat) : Int) + dl v := by omega
          rw [e]
          exact c.2
      · intro p k m a b c
        refine ⟨fun r h0 hr => ?_, .yours a b fun v hv => (c v hv).2⟩
        obtain ⟨n, rfl⟩ : ∃ n : Nat, r = n := ⟨r.toNat, by omega⟩
        have e : p = A.length + n := by omega
        subst e
        have a' : B[n]? = some k := by rw [List.getElem?_append_right (by omega)] at a; rw [← a]; congr 1; omega
        refine .yours a' b fun v hv => ?_
        by_cases hz : 0 ≤ (n : Int) + dl v
        · exact (c v hv).1 _ hz (by omega)
        · have := dl_le v
          refine .outL (by omega) ?_
          rw [sel_at2, winB_iff]
          have e : (A.length : Int) - 1 = ((A.length + n : Nat) : Int) + dl v := by omega
          rw [e]
          exact (c v hv).2
    exact key p hp hq
  · intro h
    have key : -1 ≤ p → Win (A ++ B) w x y (A.length + p) m := by
      refine Win.least (Q := fun p m => -1 ≤ p → Win (A ++ B) w x y (A.length + p) m) ?_ ?_ ?_ ?_ h
      · intro p m a b c
        have e : (A.length : Int) + p = A.length - 1 := by omega
        rw [sel_at2, winB_iff] at b
        rw [e]
        exact b
      · exact fun p m a b _ => .outR (by omega) b
      · intro p k v a b c _
        have := dl_le v
        have e : (A.length : Int) + (p : Int) = ((A.length + p : Nat) : Int) := by omega
        rw [e]
        refine .mine (k := k) (by rw [List.getElem?_append_right (by omega), ← a]; congr 1; omega) b ?_
        have := c (by omega)
        have e2 : ((A.length + p : Nat) : Int) + dl v = A.length + (p + dl v) := by omega
        rw [e2]
        exact this
      · intro p k m a b c _
        have e : (A.length : Int) + (p : Int) = ((A.length + p : Nat) : Int) := by omega
        rw [e]
        refine .yours (k := k) (by rw [List.getElem?_append_right (by omega), ← a]; congr 1; omega) b fun v hv => ?_
        have := dl_le v
        have := c v hv (by omega)
        have e2 : ((A.length + p : Nat) : Int) + dl v = A.length + (p + dl v) := by omega
        rw [e2]
        exact this
    exact key (by omega)
theorem at2_left {p : Int} (hp : p < A.length) : at2 (A ++ B) w x y p = at2 A w x (at2 (A ++ B) w x y A.length) p := sel_ext fun m => by
  rw [sel_at2, sel_at2, Bool.eq_iff_iff, winB_iff, winB_iff, part_left hp]
theorem at2_right {p : Int} (hp : 0 ≤ p) : at2 (A ++ B) w x y (A.length + p) = at2 B w (at2 (A ++ B) w x y ((A.length : Int) - 1)) y p := sel_ext fun m => by
  rw [sel_at2, sel_at2, Bool.eq_iff_iff, winB_iff, winB_iff, part_right hp]
/-- what is between is the least answer -/
theorem between (A B : List Kind) (w : Bool) (x y : B2) :
    at2 (A ++ B) w x y ((A.length : Int) - 1) = bk (sgn A w) (sgn B w) x y ∧ at2 (A ++ B) w x y A.length = (sgn B w).L (bk (sgn A w) (sgn B w) x y) y := by
  have h1 : (sgn B w).L (at2 (A ++ B) w x y ((A.length : Int) - 1)) y = at2 (A ++ B) w x y A.length := by
    have := at2_right (A := A) (B := B) (w := w) (x := x) (y := y) (p := 0) (by omega)
    rw [Int.add_zero] at this
    exact this.symm
  have h2 : (sgn A w).R x (at2 (A ++ B) w x y A.length) = at2 (A ++ B) w x y ((A.length : Int) - 1) :=
    (at2_left (A := A) (B := B) (w := w) (x := x) (y := y) (p := (A.length : Int) - 1) (by omega)).symm
  refine both_least (sgn_mon A w) (sgn_mon B w) h1 h2 fun j c e1 e2 => ?_
  -- whatever answers, holds what is forced
  have hlen : ((A ++ B).length : Int) = A.length + B.length := by simp
  have key : ∀ {p m}, Win (A ++ B) w x y p m → (p < A.length → Win A w x j p m) ∧ (A.length ≤ p → Win B w c y (p - A.length) m) := by
    intro p m h
    have jA : ∀ m, Win A w x j ((A.length : Int) - 1) m → sel c m = true := fun m q => by
      rw [← e2]
      show sel (at2 A w x j _) m = true
      rw [sel_at2]
      exact winB_iff.mpr q
    have cB : ∀ m, Win B w c y 0 m → sel j m = true := fun m q => by
      rw [← e1]
      show sel (at2 B w c y _) m = true
      rw [sel_at2]
      exact winB_iff.mpr q
    -- from a cell to what is beside it
    have stepA : ∀ (p : Nat) (v : Way) (m : Bool), p < A.length → ((p : Int) + dl v < A.length → Win A w x j (p + dl v) m) ∧ (A.length ≤ (p : Int) + dl v → Win B w c y (p + dl v - A.length) m) → Win A w x j (p + dl v) m := by
      intro p v m hp q
      by_cases hz : (p : Int) + dl v < A.length
      · exact q.1 hz
      · have := dl_le v
        have e : (p : Int) + dl v - A.length = 0 := by omega
        have := q.2 (by omega)
        rw [e] at this
        exact .outR (by omega) (cB m this)
    have stepB : ∀ (n : Nat) (v : Way) (m : Bool), (((A.length + n : Nat) : Int) + dl v < A.length → Win A w x j (((A.length + n : Nat) : Int) + dl v) m) ∧ (A.length ≤ ((A.length + n : Nat) : Int) + dl v → Win B w c y (((A.length + n : Nat) : Int) + dl v - A.length) m) → Win B w c y (n + dl v) m := by
      intro n v m q
      have := dl_le v
      by_cases hz : ((A.length + n : Nat) : Int) + dl v < A.length
      · have e : ((A.length + n : Nat) : Int) + dl v = (A.length : Int) - 1 := by omega
        have := q.1 hz
        rw [e] at this
        exact .outL (by omega) (jA m this)
      · have := q.2 (by omega)
        have e : ((A.length + n : Nat) : Int) + dl v - A.length = n + dl v := by omega
        rw [e] at this
        exact this
    refine Win.least (Q := fun p m => (p < A.length → Win A w x j p m) ∧ (A.length ≤ p → Win B w c y (p - A.length) m)) ?_ ?_ ?_ ?_ h
    · exact fun p m a b => ⟨fun _ => .outL a b, fun q => by omega⟩
    · exact fun p m a b => ⟨fun q => by omega, fun _ => .outR (by omega) b⟩
    · intro p k v a b q
      refine ⟨fun hp => ?_, fun hp => ?_⟩
      · exact .mine (by rw [List.getElem?_append_left (by omega)] at a; exact a) b (stepA p v _ (by omega) q)
      · obtain ⟨n, rfl⟩ : ∃ n : Nat, p = A.length + n := ⟨p - A.length, by omega⟩
        have e : ((A.length + n : Nat) : Int) - A.length = n := by omega
        rw [e]
        exact .mine (by rw [List.getElem?_append_right (by omega)] at a; rw [← a]; congr 1; omega) b (stepB n v _ q)
    · intro p k m a b q
      refine ⟨fun hp => ?_, fun hp => ?_⟩
      · exact .yours (by rw [List.getElem?_append_left (by omega)] at a; exact a) b fun v hv => stepA p v _ (by omega) (q v hv)
      · obtain ⟨n, rfl⟩ : ∃ n : Nat, p = A.length + n := ⟨p - A.length, by omega⟩
        have e : ((A.length + n : Nat) : Int) - A.length = n := by omega
        rw [e]
        exact .yours (by rw [List.getElem?_append_right (by omega)] at a; rw [← a]; congr 1; omega) b fun v hv => stepB n v _ (q v hv)
  refine ⟨le_sel fun m h => ?_, le_sel fun m h => ?_⟩
  · rw [sel_at2, winB_iff] at h
    have := (key h).2 (Int.le_refl _)
    rw [Int.sub_self] at this
    rw [← e1]
    show sel (at2 B w c y 0) m = true
    rw [sel_at2]
    exact winB_iff.mpr this
  · rw [sel_at2, winB_iff] at h
    have := (key h).1 (by omega)
    rw [← e2]
    show sel (at2 A w x j _) m = true
    rw [sel_at2]
    exact winB_iff.mpr this
/-- rows side by side -/
theorem sgn_append (A B : List Kind) (w : Bool) : sgn (A ++ B) w = Sg.join (sgn A w) (sgn B w) := by
  refine Sg.S.ext' ?_ ?_
  · funext x y
    obtain ⟨h1, h2⟩ := between A B w x y
    show at2 (A ++ B) w x y 0 = (sgn A w).L x ((sgn B w).L (bk (sgn A w) (sgn B w) x y) y)
    rw [← h2]
    by_cases hA : 0 < A.length
    · exact at2_left (by omega)
    · have e : (A.length : Int) = 0 := by omega
      rw [e]
      exact (at2_R (by omega)).symm
  · funext x y
    obtain ⟨h1, h2⟩ := between A B w x y
    show at2 (A ++ B) w x y (((A ++ B).length : Int) - 1) = (sgn B w).R (bk (sgn A w) (sgn B w) x y) y
    rw [← h1]
    by_cases hB : 0 < B.length
    · have e : (((A ++ B).length : Int) - 1) = A.length + ((B.length : Int) - 1) := by simp; omega
      rw [e]
      exact at2_right (by omega)
    · have e : (((A ++ B).length : Int) - 1) = (A.length : Int) - 1 := by simp; omega
      rw [e]
      exact (at2_L (by omega)).symm
end
/-! ### one cell, between what lies on both sides -/
/-- the truths of both movers on a cell: lf, rg: behind the ways out, told by those on the cell -/
def cellG (k : Kind) (w : Bool) (lf rg : B2 → B2) (b : B2) : B2 :=
  let f := fun m v => match v with
    | .l => sel (lf b) (!m)
    | .r => sel (rg b) (!m)
    | .s => sel b (!m)
  (frc k w false (f false), frc k w true (f true))
theorem sel_cellG (k : Kind) (w : Bool) (lf rg : B2 → B2) (b : B2) (m : Bool) : sel (cellG k w lf rg b) m = frc k w m (fun v => match v with
    | .l => sel (lf b) (!m)
    | .r => sel (rg b) (!m)
    | .s => sel b (!m)) := by
  cases m <;> rfl
theorem cellG_mon {k : Kind} {w : Bool} {lf rg : B2 → B2} (hl : ∀ a b, le a b → le (lf a) (lf b)) (hr : ∀ a b, le a b → le (rg a) (rg b)) : Mon (cellG k w lf rg) := fun a b h => le_sel fun m => by
  rw [sel_cellG, sel_cellG]
  refine frc_mono fun v => ?_
  cases v
  · exact sel_le (hl _ _ h) _
  · exact sel_le (hr _ _ h) _
  · exact sel_le h _
section
variable {A B : List Kind} {k : Kind} {w : Bool} {x y : B2}
theorem mid_fx (A B : List Kind) (k : Kind) (w : Bool) (x y : B2) :
    at2 (A ++ k :: B) w x y A.length = fx (cellG k w (fun b => (sgn A w).R x b) (fun b => (sgn B w).L b y)) := by
  have mG : Mon (cellG k w (fun b => (sgn A w).R x b) (fun b => (sgn B w).L b y)) := cellG_mon (fun a b h => (sgn_mon A w).r (le_refl _) h) (fun a b h => (sgn_mon B w).l h (le_refl _))
  have hlen : ((A ++ k :: B).length : Int) = A.length + B.length + 1 := by simp; omega
  have hk : (A ++ k :: B)[A.length]? = some k := by simp
  refine le_anti ?_ ?_
  · -- what is forced is in every answer
    generalize hv : fx (cellG k w (fun b => (sgn A w).R x b) (fun b => (sgn B w).L b y)) = v
    have fixv : cellG k w (fun b => (sgn A w).R x b) (fun b => (sgn B w).L b y) v = v := by rw [← hv]; exact fx_fix mG
    have key : ∀ {p m}, Win (A ++ k :: B) w x y p m → (p < A.length → Win A w x v p m) ∧ (p = A.length → sel v m = true) ∧ (A.length < p → Win B w v y (p - A.length - 1) m) := by
      intro p m h
      have beh : ∀ (m : Bool) (u : Way), (((A.length : Int) + dl u < A.length → Win A w x v (A.length + dl u) m) ∧ ((A.length : Int) + dl u = A.length → sel v m = true) ∧ ((A.length : Int) < A.length + dl u → Win B w v y (A.length + dl u - A.length - 1) m)) →
          (match u with | .l => sel ((sgn A w).R x v) m | .r => sel ((sgn B w).L v y) m | .s => sel v m) = true := by
        intro m u q
        cases u with
        | l =>
          show sel (at2 A w x v _) m = true
          rw [sel_at2]
          exact winB_iff.mpr (q.1 (by simp only [dl]; omega))
        | r =>
          show sel (at2 B w v y 0) m = true
          rw [sel_at2]
          have := q.2.2 (by simp only [dl]; omega)
          have e : (A.length : Int) + dl .r - A.length - 1 = 0 := by simp only [dl]; omega
          rw [e] at this
          exact winB_iff.mpr this
        | s => exact q.2.1 (by simp only [dl]; omega)
      have stepA : ∀ (p : Nat) (u : Way) (m : Bool), p < A.length → (((p : Int) + dl u < A.length → Win A w x v (p + dl u) m) ∧ ((p : Int) + dl u = A.length → sel v m = true) ∧ ((A.length : Int) < p + dl u → Win B w v y (p + dl u - A.length - 1) m)) → Win A w x v (p + dl u) m := by
        intro p u m hp q
        by_cases hz : (p : Int) + dl u < A.length
        · exact q.1 hz
        · have := dl_le u
          exact .outR (by omega) (q.2.1 (by omega))
      have stepB : ∀ (n : Nat) (u : Way) (m : Bool), ((((A.length + n + 1 : Nat) : Int) + dl u < A.length → Win A w x v (((A.length + n + 1 : Nat) : Int) + dl u) m) ∧ (((A.length + n + 1 : Nat) : Int) + dl u = A.length → sel v m = true) ∧ ((A.length : Int) < ((A.length + n + 1 : Nat) : Int) + dl u → Win B w v y (((A.length + n + 1 : Nat) : Int) + dl u - A.length - 1) m)) → Win B w v y (n + dl u) m := by
        intro n u m q
        have := dl_le u
        by_cases hz : ((A.length + n + 1 : Nat) : Int) + dl u = A.length
        · exact .outL (by omega) (q.2.1 hz)
        · have := q.2.2 (by omega)
          have e : ((A.length + n + 1 : Nat) : Int) + dl u - A.length - 1 = n + dl u := by omega
          rw [e] at this
          exact this
      refine Win.least (Q := fun p m => (p < A.length → Win A w x v p m) ∧ (p = A.length → sel v m = true) ∧ (A.length < p → Win B w v y (p - A.length - 1) m)) ?_ ?_ ?_ ?_ h
      · exact fun p m a b => ⟨fun _ => .outL a b, fun q => by omega, fun q => by omega⟩
      · exact fun p m a b => ⟨fun q => by omega, fun q => by omega, fun _ => .outR (by omega) b⟩
      · intro p k' u a b q
        refine ⟨fun hp => ?_, fun hp => ?_, fun hp => ?_⟩
        · exact .mine (by rw [List.getElem?_append_left (by omega)] at a; exact a) b (stepA p u _ (by omega) q)
        · have e : p = A.length := by omega
          subst e
          rw [hk] at a
          cases a
          rw [← fixv, sel_cellG]
          unfold frc
          rw [if_pos rfl, List.any_eq_true]
          exact ⟨u, b, beh _ _ q⟩
        · obtain ⟨n, rfl⟩ : ∃ n : Nat, p = A.length + n + 1 := ⟨p - A.length - 1, by omega⟩
          have e : ((A.length + n + 1 : Nat) : Int) - A.length - 1 = n := by omega
          rw [e]
          have a' : B[n]? = some k' := by
            have e2 : (A ++ k :: B)[A.length + n + 1]? = B[n]? := by
              rw [List.getElem?_append_right (by omega)]
              have : A.length + n + 1 - A.length = n + 1 := by omega
              rw [this, List.getElem?_cons_succ]
            rw [← e2]; exact a
          exact .mine a' b (stepB n u _ q)
      · intro p k' m a b q
        refine ⟨fun hp => ?_, fun hp => ?_, fun hp => ?_⟩
        · exact .yours (by rw [List.getElem?_append_left (by omega)] at a; exact a) b fun u hu => stepA p u _ (by omega) (q u hu)
        · have e : p = A.length := by omega
          subst e
          rw [hk] at a
          cases a
          rw [← fixv, sel_cellG]
          unfold frc
          rw [if_neg b, List.all_eq_true]
          exact fun u hu => beh _ _ (q u hu)
        · obtain ⟨n, rfl⟩ : ∃ n : Nat, p = A.length + n + 1 := ⟨p - A.length - 1, by omega⟩
          have e : ((A.length + n + 1 : Nat) : Int) - A.length - 1 = n := by omega
          rw [e]
          have a' : B[n]? = some k' := by
            have e2 : (A ++ k :: B)[A.length + n + 1]? = B[n]? := by
              rw [List.getElem?_append_right (by omega)]
              have : A.length + n + 1 - A.length = n + 1 := by omega
              rw [this, List.getElem?_cons_succ]
            rw [← e2]; exact a
          exact .yours a' b fun u hu => stepB n u _ (q u hu)
    refine le_sel fun m h => ?_
    rw [sel_at2, winB_iff] at h
    exact (key h).2.1 rfl
  · refine fx_least mG ?_
    refine le_sel fun m h => ?_
    rw [sel_cellG] at h
    rw [sel_at2, winB_iff, Win.in_ hk]
    refine (frc_congr fun u => ?_).trans h
    cases u with
    | l =>
      have e : (A.length : Int) + dl .l = (A.length : Int) - 1 := by simp only [dl]; omega
      rw [e, ← sel_at2, at2_left (B := k :: B) (by omega)]
      rfl
    | r =>
      show _ = sel (at2 B w _ y 0) (!m)
      have e : (A.length : Int) + dl .r = ((A ++ [k]).length : Int) + 0 := by simp only [dl, List.length_append, List.length_cons, List.length_nil]; omega
      have e3 : A ++ k :: B = (A ++ [k]) ++ B := by simp
      have e4 : (((A ++ [k]).length : Int) - 1) = A.length := by simp
      rw [e, ← sel_at2, e3, at2_right (by omega), e4]
    | s =>
      have e : (A.length : Int) + dl .s = A.length := by simp only [dl]; omega
      rw [e, sel_at2]
/-- the sign of one cell -/
theorem sgn_cell (k : Kind) (w : Bool) (x y : B2) : (sgn [k] w).L x y = fx (cellG k w (fun _ => x) (fun _ => y)) ∧ (sgn [k] w).R x y = fx (cellG k w (fun _ => x) (fun _ => y)) := by
  have h := mid_fx [] [] k w x y
  rw [sgn_nil] at h
  exact ⟨h, h⟩
end
/-! ### many rounds -/
/-- a sign many times -/
noncomputable def powS (s : Sg.S) : Nat → Sg.S
  | 0 => Sg.one
  | n + 1 => Sg.join (powS s n) s
def rep (r : List Kind) : Nat → List Kind
  | 0 => []
  | n + 1 => rep r n ++ r
theorem powS_mon {s : Sg.S} (h : s.Mon) : ∀ n, (powS s n).Mon
  | 0 => one_mon
  | n + 1 => join_mon (powS_mon h n) h
theorem sgn_rep (r : List Kind) (w : Bool) : ∀ n, sgn (rep r n) w = powS (sgn r w) n
  | 0 => sgn_nil w
  | n + 1 => by rw [rep, sgn_append, sgn_rep r w n, powS]
end Gm

namespace Q
open PySem PySem.Spec PyProof.Rows L2 Mir LamX
def topS (i : Nat) : Stmt := PySem.Challenge.pw_stoneroads_k01_roads_and_cells_known.main.body.getD i (.Pass ⟨0, 0, 0, 0⟩)
theorem blt_all : bootBuiltins "all" = some (.builtin "all") := by decide +kernel
theorem blt_bool : bootBuiltins "bool" = some (.type "bool") := by decide +kernel
theorem blt_int : bootBuiltins "int" = some (.type "int") := by decide +kernel
theorem blt_isinstance : bootBuiltins "isinstance" = some (.builtin "isinstance") := by decide +kernel
theorem blt_len : bootBuiltins "len" = some (.builtin "len") := by decide +kernel
theorem blt_list : bootBuiltins "list" = some (.type "list") := by decide +kernel
theorem blt_range : bootBuiltins "range" = some (.type "range") := by decide +kernel
theorem blt_set : bootBuiltins "set" = some (.type "set") := by decide +kernel
theorem blt_sorted : bootBuiltins "sorted" = some (.builtin "sorted") := by decide +kernel
theorem blt_str : bootBuiltins "str" = some (.type "str") := by decide +kernel
theorem blt_tuple : bootBuiltins "tuple" = some (.type "tuple") := by decide +kernel
theorem blt_zip : bootBuiltins "zip" = some (.type "zip") := by decide +kernel
def K_MANY : D := (.int 200)
def K_MOST : D := (.int (1000000000000000000000000000000))
def K_WAYS : D := (.tup [(.str "left"), (.str "right"), (.str "stay")])
def sub_t : List (Str × Str × Bool) := [("InvalidNumber", "InvalidNumber", true), ("InvalidNumber", "InvalidRoad", false), ("InvalidNumber", "RoadError", true), ("InvalidRoad", "InvalidNumber", false), ("InvalidRoad", "InvalidRoad", true), ("InvalidRoad", "RoadError", true)]
/-- what the top has left: the built-in names, the constants, the classes -/
structure Bn (P : Program) (w : World) (K : PySem.W.Frag) (mg : Str → Option Value) (T : List (Addr × Str)) : Prop where
  all : mg "all" = none
  bool : mg "bool" = none
  int : mg "int" = none
  isinstance : mg "isinstance" = none
  len : mg "len" = none
  list : mg "list" = none
  range : mg "range" = none
  set : mg "set" = none
  sorted : mg "sorted" = none
  str : mg "str" = none
  tuple : mg "tuple" = none
  zip : mg "zip" = none
  k_MANY : KD ⟨P, w, K, mg, T⟩ "MANY" K_MANY
  k_MOST : KD ⟨P, w, K, mg, T⟩ "MOST" K_MOST
  k_WAYS : KD ⟨P, w, K, mg, T⟩ "WAYS" K_WAYS
  x_InvalidNumber : XC ⟨P, w, K, mg, T⟩ "InvalidNumber"
  x_InvalidRoad : XC ⟨P, w, K, mg, T⟩ "InvalidRoad"
  c_InvalidNumber : ∃ C, mg "InvalidNumber" = some (.ref C)
  c_InvalidRoad : ∃ C, mg "InvalidRoad" = some (.ref C)
  c_RoadError : ∃ C, mg "RoadError" = some (.ref C)
  sub : XS ⟨P, w, K, mg, T⟩ sub_t
noncomputable section
variable {P : Program} {w : World} {K : PySem.W.Frag} {mg : Str → Option Value} {base : Heap} {T : List (Addr × Str)}
abbrev s_is_number : Stmt := topS 8
abbrev N_is_number : List Str := ["value", "low", "high"]
abbrev p_is_number : List Str := ["value", "low", "high"]
theorem c_is_number : FnScope N_is_number p_is_number (defScope s_is_number) := ⟨rfl, rfl, rfl, by decide +kernel, rfl, by decide +kernel, by decide +kernel⟩
def m_is_number : MS :=
  (retM (andM (isM .int (varM 0)) (andM (notM (isM .bool (varM 0))) (chM leG leG (varM 1) (varM 0) (varM 2)))))
def F_is_number : List D → R := run0 3 m_is_number
theorem d_is_number {f : Addr} {k : Nat} (B : Bn P w K mg T) : Der P w K mg base T N_is_number "is_number" s_is_number f k m_is_number := fun cdv A outer s H E hr hu tk po =>
  have nd : N_is_number.Nodup := c_is_number.nd; have hu4 := Nat.lt_of_succ_lt hu
  (s_one (s_ret (e_and (e_isi .int B.isinstance B.int blt_int (e_var 0)) (e_and (e_not (e_isi .bool B.isinstance B.bool blt_bool (e_var 0))) (e_one (e_ch o_le o_le (e_var 1) (e_var 0) (e_var 2)))))))
theorem ok_is_number {f : Addr} {fd : FuncData} {k : Nat} (B : Bn P w K mg T) (Fu : Fun K "is_number" "is_number" s_is_number f fd) : FnOk P w K mg base (L2.CX P w) (k + 1) f fd p_is_number (sp0 ⟨P, w, K, mg, T⟩ 3 F_is_number) :=
  ok0 Fu c_is_number (d_is_number B) rfl (fun _ _ => rfl)
abbrev s_are_ways : Stmt := topS 9
abbrev N_are_ways : List Str := ["value", "one", "other"]
abbrev p_are_ways : List Str := ["value"]
theorem c_are_ways : FnScope N_are_ways p_are_ways (defScope s_are_ways) := ⟨rfl, rfl, rfl, by decide +kernel, rfl, by decide +kernel, by decide +kernel⟩
def C_are_ways_1 : ME :=
  (lcM (seqI (varM 0)) (.one 1) yesM (andM (isM .str (varM 1)) (op2M inG (varM 1) (conM K_WAYS))) [1])
def C_are_ways_2 : ME :=
  (lcM (zpBI (varM 0) (slM (varM 0) (someP (conM (.int 1))) noP)) (.many [1, 2]) yesM (op2M ltG (varM 1) (varM 2)) [1, 2])
def m_are_ways : MS :=
  (seqM (ifM (orT (notT (tstM (isM .tuple (varM 0)))) (notT (tstM (biM allB [C_are_ways_1])))) (retM (conM (.bl false))) nxtM)
    (retM (biM allB [C_are_ways_2])))
def F_are_ways : List D → R := run0 3 m_are_ways
theorem d_are_ways {f : Addr} {k : Nat} (B : Bn P w K mg T) : Der P w K mg base T N_are_ways "are_ways" s_are_ways f k m_are_ways := fun cdv A outer s H E hr hu tk po =>
  have nd : N_are_ways.Nodup := c_are_ways.nd; have hu4 := Nat.lt_of_succ_lt hu
  (s_cons (s_if (PW.pt (w_or (t_not (t_val (e_isi .tuple B.isinstance B.tuple blt_tuple (e_var 0)))) (w_or1 (t_not (t_val (e_bi (c_all rfl) B.all blt_all (a_cons (e_lc (.one 1) [("one", 1)] rfl nd (i_seq (e_var 0)) (blkOk_by (N := N_are_ways) (sc := defScope s_are_ways) (by decide +kernel)) (fun _ _ _ _ _ => (pg_name (i := 1) nd rfl (Or.inl rfl))) (fun _ _ _ _ _ tk => ts_nil) (fun _ _ _ _ _ tk => (e_and (e_isi .str B.isinstance B.str blt_str (e_var 1)) (e_one (e_cmp (o_in hu) (e_var 1) (e_glob B.k_WAYS))))) (by decide)) a_nil))))))) (s_one (s_ret e_bl)) s_nil)
    (s_one (s_ret (e_bi (c_all rfl) B.all blt_all (a_cons (e_lc (.many [1, 2]) [("one", 1), ("other", 2)] rfl nd (i_zip2 B.zip (a_cons (e_var 0) (a_cons (e_sl (e_var 0) (p_some e_int) p_none) a_nil))) (blkOk_by (N := N_are_ways) (sc := defScope s_are_ways) (by decide +kernel)) (fun _ _ _ _ _ => (pg_tup rfl (gns_cons (pg_name (i := 1) nd rfl (Or.inl rfl)) (gns_cons (pg_name (i := 2) nd rfl (Or.inl rfl)) gns_nil)))) (fun _ _ _ _ _ tk => ts_nil) (fun _ _ _ _ _ tk => (e_cmp o_lt (e_var 1) (e_var 2))) (by decide)) a_nil)))))
theorem ok_are_ways {f : Addr} {fd : FuncData} {k : Nat} (B : Bn P w K mg T) (Fu : Fun K "are_ways" "are_ways" s_are_ways f fd) : FnOk P w K mg base (L2.CX P w) (k + 1) f fd p_are_ways (sp0 ⟨P, w, K, mg, T⟩ 1 F_are_ways) :=
  ok0 Fu c_are_ways (d_are_ways B) rfl (fun _ _ => rfl)
abbrev s_is_kind : Stmt := topS 10
abbrev N_is_kind : List Str := ["value", "one"]
abbrev p_is_kind : List Str := ["value"]
theorem c_is_kind : FnScope N_is_kind p_is_kind (defScope s_is_kind) := ⟨rfl, rfl, rfl, by decide +kernel, rfl, by decide +kernel, by decide +kernel⟩
def C_is_kind_1 : ME :=
  (lcM (seqI (varM 0)) (.one 1) yesM (callM F_are_ways [(varM 1)]) [1])
def m_is_kind : MS :=
  (retM (andM (isM .tuple (varM 0)) (andM (op2M eqG (biM lenG [(varM 0)]) (conM (.int 2))) (biM allB [C_is_kind_1]))))
def F_is_kind : List D → R := run0 2 m_is_kind
theorem d_is_kind {f : Addr} {k : Nat} (B : Bn P w K mg T) (h_are_ways : Kn ⟨P, w, K, mg, T⟩ base k "are_ways" (sp0 ⟨P, w, K, mg, T⟩ 1 F_are_ways)) : Der P w K mg base T N_is_kind "is_kind" s_is_kind f k m_is_kind := fun cdv A outer s H E hr hu tk po =>
  have nd : N_is_kind.Nodup := c_is_kind.nd; have hu4 := Nat.lt_of_succ_lt hu
  (s_one (s_ret (e_and (e_isi .tuple B.isinstance B.tuple blt_tuple (e_var 0)) (e_and (e_cmp (o_eq hu4) (e_bi c_len B.len blt_len (a_cons (e_var 0) a_nil)) e_int) (e_one (e_bi (c_all rfl) B.all blt_all (a_cons (e_lc (.one 1) [("one", 1)] rfl nd (i_seq (e_var 0)) (blkOk_by (N := N_is_kind) (sc := defScope s_is_kind) (by decide +kernel)) (fun _ _ _ _ _ => (pg_name (i := 1) nd rfl (Or.inl rfl))) (fun _ _ _ _ _ tk => ts_nil) (fun _ _ _ _ _ tk => (e_call h_are_ways hr tk rfl (a_cons (e_var 1) a_nil))) (by decide)) a_nil)))))))
theorem ok_is_kind {f : Addr} {fd : FuncData} {k : Nat} (B : Bn P w K mg T) (h_are_ways : Kn ⟨P, w, K, mg, T⟩ base k "are_ways" (sp0 ⟨P, w, K, mg, T⟩ 1 F_are_ways)) (Fu : Fun K "is_kind" "is_kind" s_is_kind f fd) : FnOk P w K mg base (L2.CX P w) (k + 1) f fd p_is_kind (sp0 ⟨P, w, K, mg, T⟩ 1 F_is_kind) :=
  ok0 Fu c_is_kind (d_is_kind B h_are_ways) rfl (fun _ _ => rfl)
abbrev s_are_kinds : Stmt := topS 11
abbrev N_are_kinds : List Str := ["value", "one"]
abbrev p_are_kinds : List Str := ["value"]
theorem c_are_kinds : FnScope N_are_kinds p_are_kinds (defScope s_are_kinds) := ⟨rfl, rfl, rfl, by decide +kernel, rfl, by decide +kernel, by decide +kernel⟩
def C_are_kinds_1 : ME :=
  (lcM (seqI (varM 0)) (.one 1) yesM (callM F_is_kind [(varM 1)]) [1])
def m_are_kinds : MS :=
  (retM (andM (isM .tuple (varM 0)) (andM (chM leG leG (conM (.int 1)) (biM lenG [(varM 0)]) (conM (.int 4))) (biM allB [C_are_kinds_1]))))
def F_are_kinds : List D → R := run0 2 m_are_kinds
theorem d_are_kinds {f : Addr} {k : Nat} (B : Bn P w K mg T) (h_is_kind : Kn ⟨P, w, K, mg, T⟩ base k "is_kind" (sp0 ⟨P, w, K, mg, T⟩ 1 F_is_kind)) : Der P w K mg base T N_are_kinds "are_kinds" s_are_kinds f k m_are_kinds := fun cdv A outer s H E hr hu tk po =>
  have nd : N_are_kinds.Nodup := c_are_kinds.nd; have hu4 := Nat.lt_of_succ_lt hu
  (s_one (s_ret (e_and (e_isi .tuple B.isinstance B.tuple blt_tuple (e_var 0)) (e_and (e_ch o_le o_le e_int (e_bi c_len B.len blt_len (a_cons (e_var 0) a_nil)) e_int) (e_one (e_bi (c_all rfl) B.all blt_all (a_cons (e_lc (.one 1) [("one", 1)] rfl nd (i_seq (e_var 0)) (blkOk_by (N := N_are_kinds) (sc := defScope s_are_kinds) (by decide +kernel)) (fun _ _ _ _ _ => (pg_name (i := 1) nd rfl (Or.inl rfl))) (fun _ _ _ _ _ tk => ts_nil) (fun _ _ _ _ _ tk => (e_call h_is_kind hr tk rfl (a_cons (e_var 1) a_nil))) (by decide)) a_nil)))))))
theorem ok_are_kinds {f : Addr} {fd : FuncData} {k : Nat} (B : Bn P w K mg T) (h_is_kind : Kn ⟨P, w, K, mg, T⟩ base k "is_kind" (sp0 ⟨P, w, K, mg, T⟩ 1 F_is_kind)) (Fu : Fun K "are_kinds" "are_kinds" s_are_kinds f fd) : FnOk P w K mg base (L2.CX P w) (k + 1) f fd p_are_kinds (sp0 ⟨P, w, K, mg, T⟩ 1 F_are_kinds) :=
  ok0 Fu c_are_kinds (d_are_kinds B h_is_kind) rfl (fun _ _ => rfl)
abbrev s_is_stretch_of : Stmt := topS 12
abbrev N_is_stretch_of : List Str := ["kinds", "value", "most", "one"]
abbrev p_is_stretch_of : List Str := ["kinds", "value", "most"]
theorem c_is_stretch_of : FnScope N_is_stretch_of p_is_stretch_of (defScope s_is_stretch_of) := ⟨rfl, rfl, rfl, by decide +kernel, rfl, by decide +kernel, by decide +kernel⟩
def C_is_stretch_of_1 : ME :=
  (lcM (seqI (varM 1)) (.one 3) yesM (callM F_is_number [(varM 3), (conM (.int 0)), (op2M subG (biM lenG [(varM 0)]) (conM (.int 1)))]) [3])
def m_is_stretch_of : MS :=
  (seqM (ifM (orT (notT (tstM (isM .tuple (varM 1)))) (tstM (op2M gtG (biM lenG [(varM 1)]) (varM 2)))) (retM (conM (.bl false))) nxtM)
    (retM (biM allB [C_is_stretch_of_1])))
def F_is_stretch_of : List D → R := run0 4 m_is_stretch_of
theorem d_is_stretch_of {f : Addr} {k : Nat} (B : Bn P w K mg T) (h_is_number : Kn ⟨P, w, K, mg, T⟩ base k "is_number" (sp0 ⟨P, w, K, mg, T⟩ 3 F_is_number)) : Der P w K mg base T N_is_stretch_of "is_stretch_of" s_is_stretch_of f k m_is_stretch_of := fun cdv A outer s H E hr hu tk po =>
  have nd : N_is_stretch_of.Nodup := c_is_stretch_of.nd; have hu4 := Nat.lt_of_succ_lt hu
  (s_cons (s_if (PW.pt (w_or (t_not (t_val (e_isi .tuple B.isinstance B.tuple blt_tuple (e_var 1)))) (w_or1 (t_cmp o_gt (e_bi c_len B.len blt_len (a_cons (e_var 1) a_nil)) (e_var 2))))) (s_one (s_ret e_bl)) s_nil)
    (s_one (s_ret (e_bi (c_all rfl) B.all blt_all (a_cons (e_lc (.one 3) [("one", 3)] rfl nd (i_seq (e_var 1)) (blkOk_by (N := N_is_stretch_of) (sc := defScope s_is_stretch_of) (by decide +kernel)) (fun _ _ _ _ _ => (pg_name (i := 3) nd rfl (Or.inl rfl))) (fun _ _ _ _ _ tk => ts_nil) (fun _ _ _ _ _ tk => (e_call h_is_number hr tk rfl (a_cons (e_var 3) (a_cons e_int (a_cons (e_op o_sub (e_bi c_len B.len blt_len (a_cons (e_var 0) a_nil)) e_int) a_nil))))) (by decide)) a_nil)))))
theorem ok_is_stretch_of {f : Addr} {fd : FuncData} {k : Nat} (B : Bn P w K mg T) (h_is_number : Kn ⟨P, w, K, mg, T⟩ base k "is_number" (sp0 ⟨P, w, K, mg, T⟩ 3 F_is_number)) (Fu : Fun K "is_stretch_of" "is_stretch_of" s_is_stretch_of f fd) : FnOk P w K mg base (L2.CX P w) (k + 1) f fd p_is_stretch_of (sp0 ⟨P, w, K, mg, T⟩ 3 F_is_stretch_of) :=
  ok0 Fu c_is_stretch_of (d_is_stretch_of B h_is_number) rfl (fun _ _ => rfl)
abbrev s_is_road_of : Stmt := topS 13
abbrev N_is_road_of : List Str := ["value", "part"]
abbrev p_is_road_of : List Str := ["value"]
theorem c_is_road_of : FnScope N_is_road_of p_is_road_of (defScope s_is_road_of) := ⟨rfl, rfl, rfl, by decide +kernel, rfl, by decide +kernel, by decide +kernel⟩
def C_is_road_of_1 : ME :=
  (lcM (seqI (slM (varM 0) (someP (conM (.int 1))) noP)) (.one 1) yesM (callM F_is_stretch_of [(op2M ixG (varM 0) (conM (.int 0))), (varM 1), (conM (.int 4))]) [1])
def m_is_road_of : MS :=
  (seqM (ifM (orT (notT (tstM (isM .tuple (varM 0)))) (orT (tstM (op2M neG (biM lenG [(varM 0)]) (conM (.int 4)))) (notT (tstM (callM F_are_kinds [(op2M ixG (varM 0) (conM (.int 0)))]))))) (retM (conM (.bl false))) nxtM)
    (retM (andM (biM allB [C_is_road_of_1]) (op2M neG (op2M ixG (varM 0) (conM (.int 2))) (tupM [])))))
def F_is_road_of : List D → R := run0 2 m_is_road_of
theorem d_is_road_of {f : Addr} {k : Nat} (B : Bn P w K mg T) (h_are_kinds : Kn ⟨P, w, K, mg, T⟩ base k "are_kinds" (sp0 ⟨P, w, K, mg, T⟩ 1 F_are_kinds)) (h_is_stretch_of : Kn ⟨P, w, K, mg, T⟩ base k "is_stretch_of" (sp0 ⟨P, w, K, mg, T⟩ 3 F_is_stretch_of)) : Der P w K mg base T N_is_road_of "is_road_of" s_is_road_of f k m_is_road_of := fun cdv A outer s H E hr hu tk po =>
  have nd : N_is_road_of.Nodup := c_is_road_of.nd; have hu4 := Nat.lt_of_succ_lt hu
  (s_cons (s_if (PW.pt (w_or (t_not (t_val (e_isi .tuple B.isinstance B.tuple blt_tuple (e_var 0)))) (w_or (t_cmp (o_ne hu4) (e_bi c_len B.len blt_len (a_cons (e_var 0) a_nil)) e_int) (w_or1 (t_not (t_val (e_call h_are_kinds hr tk rfl (a_cons (e_ix hu (e_var 0) e_int) a_nil)))))))) (s_one (s_ret e_bl)) s_nil)
    (s_one (s_ret (e_and (e_bi (c_all rfl) B.all blt_all (a_cons (e_lc (.one 1) [("part", 1)] rfl nd (i_seq (e_sl (e_var 0) (p_some e_int) p_none)) (blkOk_by (N := N_is_road_of) (sc := defScope s_is_road_of) (by decide +kernel)) (fun _ _ _ _ _ => (pg_name (i := 1) nd rfl (Or.inl rfl))) (fun _ _ _ _ _ tk => ts_nil) (fun _ _ _ _ _ tk => (e_call h_is_stretch_of hr tk rfl (a_cons (e_ix hu (e_var 0) e_int) (a_cons (e_var 1) (a_cons e_int a_nil))))) (by decide)) a_nil)) (e_one (e_cmp (o_ne hu4) (e_ix hu (e_var 0) e_int) (e_tup a_nil)))))))
theorem ok_is_road_of {f : Addr} {fd : FuncData} {k : Nat} (B : Bn P w K mg T) (h_are_kinds : Kn ⟨P, w, K, mg, T⟩ base k "are_kinds" (sp0 ⟨P, w, K, mg, T⟩ 1 F_are_kinds)) (h_is_stretch_of : Kn ⟨P, w, K, mg, T⟩ base k "is_stretch_of" (sp0 ⟨P, w, K, mg, T⟩ 3 F_is_stretch_of)) (Fu : Fun K "is_road_of" "is_road_of" s_is_road_of f fd) : FnOk P w K mg base (L2.CX P w) (k + 1) f fd p_is_road_of (sp0 ⟨P, w, K, mg, T⟩ 1 F_is_road_of) :=
  ok0 Fu c_is_road_of (d_is_road_of B h_are_kinds h_is_stretch_of) rfl (fun _ _ => rfl)
abbrev s_need_road : Stmt := topS 14
abbrev N_need_road : List Str := ["road"]
abbrev p_need_road : List Str := ["road"]
theorem c_need_road : FnScope N_need_road p_need_road (defScope s_need_road) := ⟨rfl, rfl, rfl, by decide +kernel, rfl, by decide +kernel, by decide +kernel⟩
def m_need_road : MS :=
  (ifM (notT (tstM (callM F_is_road_of [(varM 0)]))) (raiM { cls := "InvalidRoad" }) nxtM)
def F_need_road : List D → R := run0 1 m_need_road
theorem d_need_road {f : Addr} {k : Nat} (B : Bn P w K mg T) (h_is_road_of : Kn ⟨P, w, K, mg, T⟩ base k "is_road_of" (sp0 ⟨P, w, K, mg, T⟩ 1 F_is_road_of)) : Der P w K mg base T N_need_road "need_road" s_need_road f k m_need_road := fun cdv A outer s H E hr hu tk po =>
  have nd : N_need_road.Nodup := c_need_road.nd; have hu4 := Nat.lt_of_succ_lt hu
  (s_one (s_if (t_not (t_val (e_call h_is_road_of hr tk rfl (a_cons (e_var 0) a_nil)))) (s_one (s_rai B.x_InvalidRoad rfl tk)) s_nil))
theorem ok_need_road {f : Addr} {fd : FuncData} {k : Nat} (B : Bn P w K mg T) (h_is_road_of : Kn ⟨P, w, K, mg, T⟩ base k "is_road_of" (sp0 ⟨P, w, K, mg, T⟩ 1 F_is_road_of)) (Fu : Fun K "need_road" "need_road" s_need_road f fd) : FnOk P w K mg base (L2.CX P w) (k + 1) f fd p_need_road (sp0 ⟨P, w, K, mg, T⟩ 1 F_need_road) :=
  ok0 Fu c_need_road (d_need_road B h_is_road_of) rfl (fun _ _ => rfl)
abbrev s_need_number : Stmt := topS 15
abbrev N_need_number : List Str := ["value", "low", "high"]
abbrev p_need_number : List Str := ["value", "low", "high"]
theorem c_need_number : FnScope N_need_number p_need_number (defScope s_need_number) := ⟨rfl, rfl, rfl, by decide +kernel, rfl, by decide +kernel, by decide +kernel⟩
def m_need_number : MS :=
  (ifM (notT (tstM (callM F_is_number [(varM 0), (varM 1), (varM 2)]))) (raiM { cls := "InvalidNumber" }) nxtM)
def F_need_number : List D → R := run0 3 m_need_number
theorem d_need_number {f : Addr} {k : Nat} (B : Bn P w K mg T) (h_is_number : Kn ⟨P, w, K, mg, T⟩ base k "is_number" (sp0 ⟨P, w, K, mg, T⟩ 3 F_is_number)) : Der P w K mg base T N_need_number "need_number" s_need_number f k m_need_number := fun cdv A outer s H E hr hu tk po =>
  have nd : N_need_number.Nodup := c_need_number.nd; have hu4 := Nat.lt_of_succ_lt hu
  (s_one (s_if (t_not (t_val (e_call h_is_number hr tk rfl (a_cons (e_var 0) (a_cons (e_var 1) (a_cons (e_var 2) a_nil)))))) (s_one (s_rai B.x_InvalidNumber rfl tk)) s_nil))
theorem ok_need_number {f : Addr} {fd : FuncData} {k : Nat} (B : Bn P w K mg T) (h_is_number : Kn ⟨P, w, K, mg, T⟩ base k "is_number" (sp0 ⟨P, w, K, mg, T⟩ 3 F_is_number)) (Fu : Fun K "need_number" "need_number" s_need_number f fd) : FnOk P w K mg base (L2.CX P w) (k + 1) f fd p_need_number (sp0 ⟨P, w, K, mg, T⟩ 3 F_need_number) :=
  ok0 Fu c_need_number (d_need_number B h_is_number) rfl (fun _ _ => rfl)
abbrev s_length_of : Stmt := topS 16
abbrev N_length_of : List Str := ["road", "k"]
abbrev p_length_of : List Str := ["road", "k"]
theorem c_length_of : FnScope N_length_of p_length_of (defScope s_length_of) := ⟨rfl, rfl, rfl, by decide +kernel, rfl, by decide +kernel, by decide +kernel⟩
def m_length_of : MS :=
  (retM (op2M addG (op2M addG (biM lenG [(op2M ixG (varM 0) (conM (.int 1)))]) (op2M mulG (varM 1) (biM lenG [(op2M ixG (varM 0) (conM (.int 2)))]))) (biM lenG [(op2M ixG (varM 0) (conM (.int 3)))])))
def F_length_of : List D → R := run0 2 m_length_of
theorem d_length_of {f : Addr} {k : Nat} (B : Bn P w K mg T) : Der P w K mg base T N_length_of "length_of" s_length_of f k m_length_of := fun cdv A outer s H E hr hu tk po =>
  have nd : N_length_of.Nodup := c_length_of.nd; have hu4 := Nat.lt_of_succ_lt hu
  (s_one (s_ret (e_op o_add (e_op o_add (e_bi c_len B.len blt_len (a_cons (e_ix hu (e_var 0) e_int) a_nil)) (e_op o_mul (e_var 1) (e_bi c_len B.len blt_len (a_cons (e_ix hu (e_var 0) e_int) a_nil)))) (e_bi c_len B.len blt_len (a_cons (e_ix hu (e_var 0) e_int) a_nil)))))
theorem ok_length_of {f : Addr} {fd : FuncData} {k : Nat} (B : Bn P w K mg T) (Fu : Fun K "length_of" "length_of" s_length_of f fd) : FnOk P w K mg base (L2.CX P w) (k + 1) f fd p_length_of (sp0 ⟨P, w, K, mg, T⟩ 2 F_length_of) :=
  ok0 Fu c_length_of (d_length_of B) rfl (fun _ _ => rfl)
abbrev s_cells_of : Stmt := topS 17
abbrev N_cells_of : List Str := ["road", "k"]
abbrev p_cells_of : List Str := ["road", "k"]
theorem c_cells_of : FnScope N_cells_of p_cells_of (defScope s_cells_of) := ⟨rfl, rfl, rfl, by decide +kernel, rfl, by decide +kernel, by decide +kernel⟩
def m_cells_of : MS :=
  (retM (op2M addG (op2M addG (op2M ixG (varM 0) (conM (.int 1))) (op2M mulG (op2M ixG (varM 0) (conM (.int 2))) (varM 1))) (op2M ixG (varM 0) (conM (.int 3)))))
def F_cells_of : List D → R := run0 2 m_cells_of
theorem d_cells_of {f : Addr} {k : Nat} (B : Bn P w K mg T) : Der P w K mg base T N_cells_of "cells_of" s_cells_of f k m_cells_of := fun cdv A outer s H E hr hu tk po =>
  have nd : N_cells_of.Nodup := c_cells_of.nd; have hu4 := Nat.lt_of_succ_lt hu
  (s_one (s_ret (e_op o_add (e_op o_add (e_ix hu (e_var 0) e_int) (e_op o_mul (e_ix hu (e_var 0) e_int) (e_var 1))) (e_ix hu (e_var 0) e_int))))
theorem ok_cells_of {f : Addr} {fd : FuncData} {k : Nat} (B : Bn P w K mg T) (Fu : Fun K "cells_of" "cells_of" s_cells_of f fd) : FnOk P w K mg base (L2.CX P w) (k + 1) f fd p_cells_of (sp0 ⟨P, w, K, mg, T⟩ 2 F_cells_of) :=
  ok0 Fu c_cells_of (d_cells_of B) rfl (fun _ _ => rfl)
abbrev s_is_road : Stmt := topS 18
abbrev N_is_road : List Str := ["value"]
abbrev p_is_road : List Str := ["value"]
theorem c_is_road : FnScope N_is_road p_is_road (defScope s_is_road) := ⟨rfl, rfl, rfl, by decide +kernel, rfl, by decide +kernel, by decide +kernel⟩
def m_is_road : MS :=
  (retM (callM F_is_road_of [(varM 0)]))
def F_is_road : List D → R := run0 1 m_is_road
theorem d_is_road {f : Addr} {k : Nat} (B : Bn P w K mg T) (h_is_road_of : Kn ⟨P, w, K, mg, T⟩ base k "is_road_of" (sp0 ⟨P, w, K, mg, T⟩ 1 F_is_road_of)) : Der P w K mg base T N_is_road "is_road" s_is_road f k m_is_road := fun cdv A outer s H E hr hu tk po =>
  have nd : N_is_road.Nodup := c_is_road.nd; have hu4 := Nat.lt_of_succ_lt hu
  (s_one (s_ret (e_call h_is_road_of hr tk rfl (a_cons (e_var 0) a_nil))))
theorem ok_is_road {f : Addr} {fd : FuncData} {k : Nat} (B : Bn P w K mg T) (h_is_road_of : Kn ⟨P, w, K, mg, T⟩ base k "is_road_of" (sp0 ⟨P, w, K, mg, T⟩ 1 F_is_road_of)) (Fu : Fun K "is_road" "is_road" s_is_road f fd) : FnOk P w K mg base (L2.CX P w) (k + 1) f fd p_is_road (sp0 ⟨P, w, K, mg, T⟩ 1 F_is_road) :=
  ok0 Fu c_is_road (d_is_road B h_is_road_of) rfl (fun _ _ => rfl)
abbrev s_cells : Stmt := topS 19
abbrev N_cells : List Str := ["road", "k"]
abbrev p_cells : List Str := ["road", "k"]
theorem c_cells : FnScope N_cells p_cells (defScope s_cells) := ⟨rfl, rfl, rfl, by decide +kernel, rfl, by decide +kernel, by decide +kernel⟩
def m_cells : MS :=
  (seqM (drpM (callM F_need_road [(varM 0)]))
    (seqM (drpM (callM F_need_number [(varM 1), (conM (.int 0)), (conM K_MOST)]))
    (seqM (ifM (tstM (op2M gtG (callM F_length_of [(varM 0), (varM 1)]) (conM K_MANY))) (raiM { cls := "InvalidNumber" }) nxtM)
    (retM (callM F_cells_of [(varM 0), (varM 1)])))))
def F_cells : List D → R := run0 2 m_cells
theorem d_cells {f : Addr} {k : Nat} (B : Bn P w K mg T) (h_need_road : Kn ⟨P, w, K, mg, T⟩ base k "need_road" (sp0 ⟨P, w, K, mg, T⟩ 1 F_need_road)) (h_need_number : Kn ⟨P, w, K, mg, T⟩ base k "need_number" (sp0 ⟨P, w, K, mg, T⟩ 3 F_need_number)) (h_length_of : Kn ⟨P, w, K, mg, T⟩ base k "length_of" (sp0 ⟨P, w, K, mg, T⟩ 2 F_length_of)) (h_cells_of : Kn ⟨P, w, K, mg, T⟩ base k "cells_of" (sp0 ⟨P, w, K, mg, T⟩ 2 F_cells_of)) : Der P w K mg base T N_cells "cells" s_cells f k m_cells := fun cdv A outer s H E hr hu tk po =>
  have nd : N_cells.Nodup := c_cells.nd; have hu4 := Nat.lt_of_succ_lt hu
  (s_cons (s_expr (e_call h_need_road hr tk rfl (a_cons (e_var 0) a_nil)))
    (s_cons (s_expr (e_call h_need_number hr tk rfl (a_cons (e_var 1) (a_cons e_int (a_cons (e_glob B.k_MOST) a_nil)))))
    (s_cons (s_if (t_cmp o_gt (e_call h_length_of hr tk rfl (a_cons (e_var 0) (a_cons (e_var 1) a_nil))) (e_glob B.k_MANY)) (s_one (s_rai B.x_InvalidNumber rfl tk)) s_nil)
    (s_one (s_ret (e_call h_cells_of hr tk rfl (a_cons (e_var 0) (a_cons (e_var 1) a_nil))))))))
theorem ok_cells {f : Addr} {fd : FuncData} {k : Nat} (B : Bn P w K mg T) (h_need_road : Kn ⟨P, w, K, mg, T⟩ base k "need_road" (sp0 ⟨P, w, K, mg, T⟩ 1 F_need_road)) (h_need_number : Kn ⟨P, w, K, mg, T⟩ base k "need_number" (sp0 ⟨P, w, K, mg, T⟩ 3 F_need_number)) (h_length_of : Kn ⟨P, w, K, mg, T⟩ base k "length_of" (sp0 ⟨P, w, K, mg, T⟩ 2 F_length_of)) (h_cells_of : Kn ⟨P, w, K, mg, T⟩ base k "cells_of" (sp0 ⟨P, w, K, mg, T⟩ 2 F_cells_of)) (Fu : Fun K "cells" "cells" s_cells f fd) : FnOk P w K mg base (L2.CX P w) (k + 1) f fd p_cells (sp0 ⟨P, w, K, mg, T⟩ 2 F_cells) :=
  ok0 Fu c_cells (d_cells B h_need_road h_need_number h_length_of h_cells_of) rfl (fun _ _ => rfl)
abbrev s__law_sack : Stmt := topS 21
abbrev N__law_sack : List Str := ["cell", "salt", "great"]
abbrev p__law_sack : List Str := ["cell", "salt"]
theorem c__law_sack : FnScope N__law_sack p__law_sack (defScope s__law_sack) := ⟨rfl, rfl, rfl, by decide +kernel, rfl, by decide +kernel, by decide +kernel⟩
def m__law_sack : MS :=
  (seqM (asgM (iteM (tstM (op2M geG (varM 0) (op2M powG (conM (.int 10)) (conM (.int 18))))) (op2M addG (op2M fdivG (varM 0) (conM (.int 10))) (op2M mulG (conM (.int 41)) (varM 1))) (conM (.int 0))) (namG 2))
    (retM (nlsM [(varM 2), (op2M addG (op2M modG (biM intG [(op2M addG (op2M mulG (varM 0) (conM (.int 73))) (op2M mulG (conM (.int 1039)) (varM 1)))]) (conM (.int 2017504241))) (conM (.int 43)))])))
def F__law_sack : List D → RNw := runN 3 m__law_sack
theorem d__law_sack {f : Addr} {k : Nat} (B : Bn P w K mg T) : Der P w K mg base T N__law_sack "_law_sack" s__law_sack f k m__law_sack := fun cdv A outer s H E hr hu tk po =>
  have nd : N__law_sack.Nodup := c__law_sack.nd; have hu4 := Nat.lt_of_succ_lt hu
  (s_cons (s_set 2 nd (e_if (t_cmp o_ge (e_var 0) (e_op o_pow e_int e_int)) (e_op o_add (e_op o_fdiv (e_var 0) e_int) (e_op o_mul e_int (e_var 1))) e_int))
    (s_one (s_ret (e_nls (a_cons (e_var 2) (a_cons (e_op o_add (e_op o_mod (e_biT c_int B.int blt_int (a_cons (e_op o_add (e_op o_mul (e_var 0) e_int) (e_op o_mul e_int (e_var 1))) a_nil)) e_int) e_int) a_nil))))))
theorem ok__law_sack {f : Addr} {fd : FuncData} {k : Nat} (B : Bn P w K mg T) (Fu : Fun K "_law_sack" "_law_sack" s__law_sack f fd) : FnOk P w K mg base (L2.CX P w) (k + 1) f fd p__law_sack (spN ⟨P, w, K, mg, T⟩ 2 F__law_sack) :=
  okN Fu c__law_sack (d__law_sack B) rfl (fun _ _ => rfl)
abbrev s__law_grip : Stmt := topS 22
abbrev N__law_grip : List Str := ["sack", "many", "deep", "found"]
abbrev p__law_grip : List Str := ["sack", "many"]
theorem c__law_grip : FnScope N__law_grip p__law_grip (defScope s__law_grip) := ⟨rfl, rfl, rfl, by decide +kernel, rfl, by decide +kernel, by decide +kernel⟩
def m__law_grip : MS :=
  (seqM (ifM (tstM (op2M gtG (op2M ixG (varM 0) (conM (.int 0))) (conM (.int 0)))) (seqM (asgM (op2M modG (biM intG [(op2M ixG (varM 0) (conM (.int 0)))]) (varM 1)) (namG 3))
    (seqM (setM (varM 0) (conM (.int 0)) (op2M fdivG (op2M ixG (varM 0) (conM (.int 0))) (varM 1)))
    (retM (varM 3)))) nxtM)
    (seqM (setM (varM 0) (conM (.int 1)) (op2M modG (biM intG [(op2M addG (op2M mulG (op2M ixG (varM 0) (conM (.int 1))) (conM (.int 35023))) (conM (.int 9001)))]) (conM (.int 2147483549))))
    (seqM (asgM (op2M modG (biM intG [(op2M mulG (op2M ixG (varM 0) (conM (.int 1))) (op2M addG (op2M ixG (varM 0) (conM (.int 1))) (conM (.int 79))))]) (conM (.int 2147483587))) (namG 2))
    (retM (op2M modG (biM intG [(op2M fdivG (varM 2) (conM (.int 593)))]) (varM 1))))))
def F__law_grip : List D → Cell → R1 := run1 4 0 m__law_grip
theorem d__law_grip {f : Addr} {k : Nat} (B : Bn P w K mg T) : Der P w K mg base T N__law_grip "_law_grip" s__law_grip f k m__law_grip := fun cdv A outer s H E hr hu tk po =>
  have nd : N__law_grip.Nodup := c__law_grip.nd; have hu4 := Nat.lt_of_succ_lt hu
  (s_cons (s_if (t_cmp o_gt (e_ix hu (e_var 0) e_int) e_int) (s_cons (s_set 3 nd (e_op o_mod (e_biT c_int B.int blt_int (a_cons (e_ix hu (e_var 0) e_int) a_nil)) (e_var 1)))
    (s_cons (s_setI hu (e_op o_fdiv (e_ix hu (e_var 0) e_int) (e_var 1)) (e_var 0) e_int)
    (s_one (s_ret (e_var 3))))) s_nil)
    (s_cons (s_setI hu (e_op o_mod (e_biT c_int B.int blt_int (a_cons (e_op o_add (e_op o_mul (e_ix hu (e_var 0) e_int) e_int) e_int) a_nil)) e_int) (e_var 0) e_int)
    (s_cons (s_set 2 nd (e_op o_mod (e_biT c_int B.int blt_int (a_cons (e_op o_mul (e_ix hu (e_var 0) e_int) (e_op o_add (e_ix hu (e_var 0) e_int) e_int)) a_nil)) e_int))
    (s_one (s_ret (e_op o_mod (e_biT c_int B.int blt_int (a_cons (e_op o_fdiv (e_var 2) e_int) a_nil)) (e_var 1)))))))
theorem ok__law_grip {f : Addr} {fd : FuncData} {k : Nat} (B : Bn P w K mg T) (Fu : Fun K "_law_grip" "_law_grip" s__law_grip f fd) : FnOk P w K mg base (L2.CX P w) (k + 1) f fd p__law_grip (sp1 ⟨P, w, K, mg, T⟩ 2 0 F__law_grip) :=
  ok1 Fu c__law_grip (d__law_grip B) rfl (fun _ _ _ => rfl)
abbrev s__law_pick : Stmt := topS 23
abbrev N__law_pick : List Str := ["sack", "things"]
abbrev p__law_pick : List Str := ["sack", "things"]
theorem c__law_pick : FnScope N__law_pick p__law_pick (defScope s__law_pick) := ⟨rfl, rfl, rfl, by decide +kernel, rfl, by decide +kernel, by decide +kernel⟩
def m__law_pick : MS :=
  (retM (op2M ixG (varM 1) (callC 0 F__law_grip [(varM 0), (biM lenG [(varM 1)])])))
def F__law_pick : List D → Cell → R1 := run1 2 0 m__law_pick
theorem d__law_pick {f : Addr} {k : Nat} (B : Bn P w K mg T) (h__law_grip : Kn ⟨P, w, K, mg, T⟩ base k "_law_grip" (sp1 ⟨P, w, K, mg, T⟩ 2 0 F__law_grip)) : Der P w K mg base T N__law_pick "_law_pick" s__law_pick f k m__law_pick := fun cdv A outer s H E hr hu tk po =>
  have nd : N__law_pick.Nodup := c__law_pick.nd; have hu4 := Nat.lt_of_succ_lt hu
  (s_one (s_ret (e_ix hu (e_var 1) (e_callC h__law_grip hr tk rfl (a_cons (e_var 0) (a_cons (e_bi c_len B.len blt_len (a_cons (e_var 1) a_nil)) a_nil))))))
theorem ok__law_pick {f : Addr} {fd : FuncData} {k : Nat} (B : Bn P w K mg T) (h__law_grip : Kn ⟨P, w, K, mg, T⟩ base k "_law_grip" (sp1 ⟨P, w, K, mg, T⟩ 2 0 F__law_grip)) (Fu : Fun K "_law_pick" "_law_pick" s__law_pick f fd) : FnOk P w K mg base (L2.CX P w) (k + 1) f fd p__law_pick (sp1 ⟨P, w, K, mg, T⟩ 2 0 F__law_pick) :=
  ok1 Fu c__law_pick (d__law_pick B h__law_grip) rfl (fun _ _ _ => rfl)
abbrev s__law_ways : Stmt := topS 24
abbrev N__law_ways : List Str := ["sack", "some"]
abbrev p__law_ways : List Str := ["sack"]
theorem c__law_ways : FnScope N__law_ways p__law_ways (defScope s__law_ways) := ⟨rfl, rfl, rfl, by decide +kernel, rfl, by decide +kernel, by decide +kernel⟩
def m__law_ways : MS :=
  (seqM (asgM (lstM [(tupM []), (tupM [(conM (.str "left"))]), (tupM [(conM (.str "right"))]), (tupM [(conM (.str "left"))]), (tupM [(conM (.str "right"))]), (tupM [(conM (.str "stay"))]), (tupM [(conM (.str "left")), (conM (.str "right"))]), (tupM [(conM (.str "left")), (conM (.str "stay"))])]) (namG 1))
    (retM (callC 0 F__law_pick [(varM 0), (op2M addG (varM 1) (lstM [(tupM [(conM (.str "right")), (conM (.str "stay"))]), (tupM [(conM (.str "left")), (conM (.str "right"))]), (tupM [(conM (.str "left")), (conM (.str "right")), (conM (.str "stay"))]), (tupM [(conM (.str "right"))])]))])))
def F__law_ways : List D → Cell → R1 := run1 2 0 m__law_ways
theorem d__law_ways {f : Addr} {k : Nat} (B : Bn P w K mg T) (h__law_pick : Kn ⟨P, w, K, mg, T⟩ base k "_law_pick" (sp1 ⟨P, w, K, mg, T⟩ 2 0 F__law_pick)) : Der P w K mg base T N__law_ways "_law_ways" s__law_ways f k m__law_ways := fun cdv A outer s H E hr hu tk po =>
  have nd : N__law_ways.Nodup := c__law_ways.nd; have hu4 := Nat.lt_of_succ_lt hu
  (s_cons (s_set 1 nd (e_lst (a_cons (e_tup a_nil) (a_cons (e_tup (a_cons e_str a_nil)) (a_cons (e_tup (a_cons e_str a_nil)) (a_cons (e_tup (a_cons e_str a_nil)) (a_cons (e_tup (a_cons e_str a_nil)) (a_cons (e_tup (a_cons e_str a_nil)) (a_cons (e_tup (a_cons e_str (a_cons e_str a_nil))) (a_cons (e_tup (a_cons e_str (a_cons e_str a_nil))) a_nil))))))))))
    (s_one (s_ret (e_callC h__law_pick hr tk rfl (a_cons (e_var 0) (a_cons (e_op o_add (e_var 1) (e_lst (a_cons (e_tup (a_cons e_str (a_cons e_str a_nil))) (a_cons (e_tup (a_cons e_str (a_cons e_str a_nil))) (a_cons (e_tup (a_cons e_str (a_cons e_str (a_cons e_str a_nil)))) (a_cons (e_tup (a_cons e_str a_nil)) a_nil)))))) a_nil))))))
theorem ok__law_ways {f : Addr} {fd : FuncData} {k : Nat} (B : Bn P w K mg T) (h__law_pick : Kn ⟨P, w, K, mg, T⟩ base k "_law_pick" (sp1 ⟨P, w, K, mg, T⟩ 2 0 F__law_pick)) (Fu : Fun K "_law_ways" "_law_ways" s__law_ways f fd) : FnOk P w K mg base (L2.CX P w) (k + 1) f fd p__law_ways (sp1 ⟨P, w, K, mg, T⟩ 1 0 F__law_ways) :=
  ok1 Fu c__law_ways (d__law_ways B h__law_pick) rfl (fun _ _ _ => rfl)
abbrev s__law_kinds : Stmt := topS 25
abbrev N__law_kinds : List Str := ["sack", "most", "kind"]
abbrev p__law_kinds : List Str := ["sack", "most"]
theorem c__law_kinds : FnScope N__law_kinds p__law_kinds (defScope s__law_kinds) := ⟨rfl, rfl, rfl, by decide +kernel, rfl, by decide +kernel, by decide +kernel⟩
def C__law_kinds_1 : ME :=
  (lcM (rng1I (op2M addG (conM (.int 1)) (callC 0 F__law_grip [(varM 0), (varM 1)]))) (.one 2) yesM (tupM [(callC 0 F__law_ways [(varM 0)]), (callC 0 F__law_ways [(varM 0)])]) [2])
def m__law_kinds : MS :=
  (retM (biM tupleG [C__law_kinds_1]))
def F__law_kinds : List D → Cell → R1 := run1 3 0 m__law_kinds
theorem d__law_kinds {f : Addr} {k : Nat} (B : Bn P w K mg T) (h__law_grip : Kn ⟨P, w, K, mg, T⟩ base k "_law_grip" (sp1 ⟨P, w, K, mg, T⟩ 2 0 F__law_grip)) (h__law_ways : Kn ⟨P, w, K, mg, T⟩ base k "_law_ways" (sp1 ⟨P, w, K, mg, T⟩ 1 0 F__law_ways)) : Der P w K mg base T N__law_kinds "_law_kinds" s__law_kinds f k m__law_kinds := fun cdv A outer s H E hr hu tk po =>
  have nd : N__law_kinds.Nodup := c__law_kinds.nd; have hu4 := Nat.lt_of_succ_lt hu
  (s_one (s_ret (e_biT c_tuple B.tuple blt_tuple (a_cons (e_lc (.one 2) [("kind", 2)] rfl nd (i_rng1 B.range (a_cons (e_op o_add e_int (e_callC h__law_grip hr tk rfl (a_cons (e_var 0) (a_cons (e_var 1) a_nil)))) a_nil)) (blkOk_by (N := N__law_kinds) (sc := defScope s__law_kinds) (by decide +kernel)) (fun _ _ _ _ _ => (pg_name (i := 2) nd rfl (Or.inl rfl))) (fun _ _ _ _ _ tk => ts_nil) (fun _ _ _ _ _ tk => (e_tup (a_cons (e_callC h__law_ways hr tk rfl (a_cons (e_var 0) a_nil)) (a_cons (e_callC h__law_ways hr tk rfl (a_cons (e_var 0) a_nil)) a_nil)))) (by decide)) a_nil))))
theorem ok__law_kinds {f : Addr} {fd : FuncData} {k : Nat} (B : Bn P w K mg T) (h__law_grip : Kn ⟨P, w, K, mg, T⟩ base k "_law_grip" (sp1 ⟨P, w, K, mg, T⟩ 2 0 F__law_grip)) (h__law_ways : Kn ⟨P, w, K, mg, T⟩ base k "_law_ways" (sp1 ⟨P, w, K, mg, T⟩ 1 0 F__law_ways)) (Fu : Fun K "_law_kinds" "_law_kinds" s__law_kinds f fd) : FnOk P w K mg base (L2.CX P w) (k + 1) f fd p__law_kinds (sp1 ⟨P, w, K, mg, T⟩ 2 0 F__law_kinds) :=
  ok1 Fu c__law_kinds (d__law_kinds B h__law_grip h__law_ways) rfl (fun _ _ _ => rfl)
abbrev s__law_cells : Stmt := topS 26
abbrev N__law_cells : List Str := ["sack", "kinds", "least", "most", "cell"]
abbrev p__law_cells : List Str := ["sack", "kinds", "least", "most"]
theorem c__law_cells : FnScope N__law_cells p__law_cells (defScope s__law_cells) := ⟨rfl, rfl, rfl, by decide +kernel, rfl, by decide +kernel, by decide +kernel⟩
def C__law_cells_1 : ME :=
  (lcM (rng1I (op2M addG (varM 2) (callC 0 F__law_grip [(varM 0), (op2M addG (op2M subG (varM 3) (varM 2)) (conM (.int 1)))]))) (.one 4) yesM (callC 0 F__law_grip [(varM 0), (biM lenG [(varM 1)])]) [4])
def m__law_cells : MS :=
  (retM (biM tupleG [C__law_cells_1]))
def F__law_cells : List D → Cell → R1 := run1 5 0 m__law_cells
theorem d__law_cells {f : Addr} {k : Nat} (B : Bn P w K mg T) (h__law_grip : Kn ⟨P, w, K, mg, T⟩ base k "_law_grip" (sp1 ⟨P, w, K, mg, T⟩ 2 0 F__law_grip)) : Der P w K mg base T N__law_cells "_law_cells" s__law_cells f k m__law_cells := fun cdv A outer s H E hr hu tk po =>
  have nd : N__law_cells.Nodup := c__law_cells.nd; have hu4 := Nat.lt_of_succ_lt hu
  (s_one (s_ret (e_biT c_tuple B.tuple blt_tuple (a_cons (e_lc (.one 4) [("cell", 4)] rfl nd (i_rng1 B.range (a_cons (e_op o_add (e_var 2) (e_callC h__law_grip hr tk rfl (a_cons (e_var 0) (a_cons (e_op o_add (e_op o_sub (e_var 3) (e_var 2)) e_int) a_nil)))) a_nil)) (blkOk_by (N := N__law_cells) (sc := defScope s__law_cells) (by decide +kernel)) (fun _ _ _ _ _ => (pg_name (i := 4) nd rfl (Or.inl rfl))) (fun _ _ _ _ _ tk => ts_nil) (fun _ _ _ _ _ tk => (e_callC h__law_grip hr tk rfl (a_cons (e_var 0) (a_cons (e_bi c_len B.len blt_len (a_cons (e_var 1) a_nil)) a_nil)))) (by decide)) a_nil))))
theorem ok__law_cells {f : Addr} {fd : FuncData} {k : Nat} (B : Bn P w K mg T) (h__law_grip : Kn ⟨P, w, K, mg, T⟩ base k "_law_grip" (sp1 ⟨P, w, K, mg, T⟩ 2 0 F__law_grip)) (Fu : Fun K "_law_cells" "_law_cells" s__law_cells f fd) : FnOk P w K mg base (L2.CX P w) (k + 1) f fd p__law_cells (sp1 ⟨P, w, K, mg, T⟩ 4 0 F__law_cells) :=
  ok1 Fu c__law_cells (d__law_cells B h__law_grip) rfl (fun _ _ _ => rfl)
abbrev s__law_road : Stmt := topS 27
abbrev N__law_road : List Str := ["sack", "most", "kinds"]
abbrev p__law_road : List Str := ["sack", "most"]
theorem c__law_road : FnScope N__law_road p__law_road (defScope s__law_road) := ⟨rfl, rfl, rfl, by decide +kernel, rfl, by decide +kernel, by decide +kernel⟩
def m__law_road : MS :=
  (seqM (asgM (callC 0 F__law_kinds [(varM 0), (conM (.int 4))]) (namG 2))
    (retM (tupM [(varM 2), (callC 0 F__law_cells [(varM 0), (varM 2), (conM (.int 0)), (varM 1)]), (callC 0 F__law_cells [(varM 0), (varM 2), (conM (.int 1)), (varM 1)]), (callC 0 F__law_cells [(varM 0), (varM 2), (conM (.int 0)), (varM 1)])])))
def F__law_road : List D → Cell → R1 := run1 3 0 m__law_road
theorem d__law_road {f : Addr} {k : Nat} (B : Bn P w K mg T) (h__law_kinds : Kn ⟨P, w, K, mg, T⟩ base k "_law_kinds" (sp1 ⟨P, w, K, mg, T⟩ 2 0 F__law_kinds)) (h__law_cells : Kn ⟨P, w, K, mg, T⟩ base k "_law_cells" (sp1 ⟨P, w, K, mg, T⟩ 4 0 F__law_cells)) : Der P w K mg base T N__law_road "_law_road" s__law_road f k m__law_road := fun cdv A outer s H E hr hu tk po =>
  have nd : N__law_road.Nodup := c__law_road.nd; have hu4 := Nat.lt_of_succ_lt hu
  (s_cons (s_set 2 nd (e_callC h__law_kinds hr tk rfl (a_cons (e_var 0) (a_cons e_int a_nil))))
    (s_one (s_ret (e_tup (a_cons (e_var 2) (a_cons (e_callC h__law_cells hr tk rfl (a_cons (e_var 0) (a_cons (e_var 2) (a_cons e_int (a_cons (e_var 1) a_nil))))) (a_cons (e_callC h__law_cells hr tk rfl (a_cons (e_var 0) (a_cons (e_var 2) (a_cons e_int (a_cons (e_var 1) a_nil))))) (a_cons (e_callC h__law_cells hr tk rfl (a_cons (e_var 0) (a_cons (e_var 2) (a_cons e_int (a_cons (e_var 1) a_nil))))) a_nil))))))))
theorem ok__law_road {f : Addr} {fd : FuncData} {k : Nat} (B : Bn P w K mg T) (h__law_kinds : Kn ⟨P, w, K, mg, T⟩ base k "_law_kinds" (sp1 ⟨P, w, K, mg, T⟩ 2 0 F__law_kinds)) (h__law_cells : Kn ⟨P, w, K, mg, T⟩ base k "_law_cells" (sp1 ⟨P, w, K, mg, T⟩ 4 0 F__law_cells)) (Fu : Fun K "_law_road" "_law_road" s__law_road f fd) : FnOk P w K mg base (L2.CX P w) (k + 1) f fd p__law_road (sp1 ⟨P, w, K, mg, T⟩ 2 0 F__law_road) :=
  ok1 Fu c__law_road (d__law_road B h__law_kinds h__law_cells) rfl (fun _ _ _ => rfl)
abbrev s__law_int : Stmt := topS 28
abbrev N__law_int : List Str := ["value", "low", "high"]
abbrev p__law_int : List Str := ["value", "low", "high"]
theorem c__law_int : FnScope N__law_int p__law_int (defScope s__law_int) := ⟨rfl, rfl, rfl, by decide +kernel, rfl, by decide +kernel, by decide +kernel⟩
def m__law_int : MS :=
  (retM (andM (isM .int (varM 0)) (andM (notM (isM .bool (varM 0))) (chM leG leG (varM 1) (varM 0) (varM 2)))))
def F__law_int : List D → R := run0 3 m__law_int
theorem d__law_int {f : Addr} {k : Nat} (B : Bn P w K mg T) : Der P w K mg base T N__law_int "_law_int" s__law_int f k m__law_int := fun cdv A outer s H E hr hu tk po =>
  have nd : N__law_int.Nodup := c__law_int.nd; have hu4 := Nat.lt_of_succ_lt hu
  (s_one (s_ret (e_and (e_isi .int B.isinstance B.int blt_int (e_var 0)) (e_and (e_not (e_isi .bool B.isinstance B.bool blt_bool (e_var 0))) (e_one (e_ch o_le o_le (e_var 1) (e_var 0) (e_var 2)))))))
theorem ok__law_int {f : Addr} {fd : FuncData} {k : Nat} (B : Bn P w K mg T) (Fu : Fun K "_law_int" "_law_int" s__law_int f fd) : FnOk P w K mg base (L2.CX P w) (k + 1) f fd p__law_int (sp0 ⟨P, w, K, mg, T⟩ 3 F__law_int) :=
  ok0 Fu c__law_int (d__law_int B) rfl (fun _ _ => rfl)
abbrev s__law_are_kinds : Stmt := topS 29
abbrev N__law_are_kinds : List Str := ["value", "kind", "ways", "way"]
abbrev p__law_are_kinds : List Str := ["value"]
theorem c__law_are_kinds : FnScope N__law_are_kinds p__law_are_kinds (defScope s__law_are_kinds) := ⟨rfl, rfl, rfl, by decide +kernel, rfl, by decide +kernel, by decide +kernel⟩
def C__law_are_kinds_1 : ME :=
  (lcM (seqI (varM 2)) (.one 3) (tstM (op2M notInG (varM 3) (lstM [(conM (.str "left")), (conM (.str "right")), (conM (.str "stay"))]))) (varM 3) [3])
def B__law_are_kinds_1 : MS :=
  (seqM (ifM (orT (notT (tstM (isM .tuple (varM 2)))) (tstM (op2M neG C__law_are_kinds_1 (lstM [])))) (retM (conM (.bl false))) nxtM)
    (ifM (tstM (op2M neG (biM listG [(varM 2)]) (sosM (varM 2)))) (retM (conM (.bl false))) nxtM))
def B__law_are_kinds_2 : MS :=
  (seqM (ifM (orT (notT (tstM (isM .tuple (varM 1)))) (tstM (op2M neG (biM lenG [(varM 1)]) (conM (.int 2))))) (retM (conM (.bl false))) nxtM)
    (forM (seqI (varM 1)) (namG 2)
    B__law_are_kinds_1))
def m__law_are_kinds : MS :=
  (seqM (ifM (orT (notT (tstM (isM .tuple (varM 0)))) (notT (tstM (chM leG leG (conM (.int 1)) (biM lenG [(varM 0)]) (conM (.int 4)))))) (retM (conM (.bl false))) nxtM)
    (seqM (forM (seqI (varM 0)) (namG 1)
    B__law_are_kinds_2)
    (retM (conM (.bl true)))))
def F__law_are_kinds : List D → R := run0 4 m__law_are_kinds
theorem d__law_are_kinds {f : Addr} {k : Nat} (B : Bn P w K mg T) : Der P w K mg base T N__law_are_kinds "_law_are_kinds" s__law_are_kinds f k m__law_are_kinds := fun cdv A outer s H E hr hu tk po =>
  have nd : N__law_are_kinds.Nodup := c__law_are_kinds.nd; have hu4 := Nat.lt_of_succ_lt hu
  (s_cons (s_if (PW.pt (w_or (t_not (t_val (e_isi .tuple B.isinstance B.tuple blt_tuple (e_var 0)))) (w_or1 (t_not (t_ch o_le o_le e_int (e_bi c_len B.len blt_len (a_cons (e_var 0) a_nil)) e_int))))) (s_one (s_ret e_bl)) s_nil)
    (s_cons (s_for po rfl (i_seq (e_var 0)) (g_nam 1 nd)
    (s_cons (s_if (PW.pt (w_or (t_not (t_val (e_isi .tuple B.isinstance B.tuple blt_tuple (e_var 1)))) (w_or1 (t_cmp (o_ne hu4) (e_bi c_len B.len blt_len (a_cons (e_var 1) a_nil)) e_int)))) (s_one (s_ret e_bl)) s_nil)
    (s_one (s_for po rfl (i_seq (e_var 1)) (g_nam 2 nd)
    (s_cons (s_if (PW.pt (w_or (t_not (t_val (e_isi .tuple B.isinstance B.tuple blt_tuple (e_var 2)))) (w_or1 (t_cmp (o_ne hu4) (e_lc (.one 3) [("way", 3)] rfl nd (i_seq (e_var 2)) (blkOk_by (N := N__law_are_kinds) (sc := defScope s__law_are_kinds) (by decide +kernel)) (fun _ _ _ _ _ => (pg_name (i := 3) nd rfl (Or.inl rfl))) (fun _ _ _ _ _ tk => (ts_one (t_cmp (o_notIn hu) (e_var 3) (e_lst (a_cons e_str (a_cons e_str (a_cons e_str a_nil))))))) (fun _ _ _ _ _ tk => (e_var 3)) (by decide)) (e_lst a_nil))))) (s_one (s_ret e_bl)) s_nil)
    (s_one (s_if (t_cmp (o_ne hu4) (e_biT c_list B.list blt_list (a_cons (e_var 2) a_nil)) (e_sos B.sorted B.set (e_var 2))) (s_one (s_ret e_bl)) s_nil)))))))
    (s_one (s_ret e_bl))))
theorem ok__law_are_kinds {f : Addr} {fd : FuncData} {k : Nat} (B : Bn P w K mg T) (Fu : Fun K "_law_are_kinds" "_law_are_kinds" s__law_are_kinds f fd) : FnOk P w K mg base (L2.CX P w) (k + 1) f fd p__law_are_kinds (sp0 ⟨P, w, K, mg, T⟩ 1 F__law_are_kinds) :=
  ok0 Fu c__law_are_kinds (d__law_are_kinds B) rfl (fun _ _ => rfl)
abbrev s__law_is_road : Stmt := topS 30
abbrev N__law_is_road : List Str := ["value", "part", "cell"]
abbrev p__law_is_road : List Str := ["value"]
theorem c__law_is_road : FnScope N__law_is_road p__law_is_road (defScope s__law_is_road) := ⟨rfl, rfl, rfl, by decide +kernel, rfl, by decide +kernel, by decide +kernel⟩
def C__law_is_road_1 : ME :=
  (lcM (seqI (varM 1)) (.one 2) (notT (tstM (callM F__law_int [(varM 2), (conM (.int 0)), (op2M subG (biM lenG [(op2M ixG (varM 0) (conM (.int 0)))]) (conM (.int 1)))]))) (varM 2) [2])
def B__law_is_road_1 : MS :=
  (seqM (ifM (orT (notT (tstM (isM .tuple (varM 1)))) (tstM (op2M gtG (biM lenG [(varM 1)]) (conM (.int 4))))) (retM (conM (.bl false))) nxtM)
    (ifM (tstM (op2M neG C__law_is_road_1 (lstM []))) (retM (conM (.bl false))) nxtM))
def m__law_is_road : MS :=
  (seqM (ifM (orT (notT (tstM (isM .tuple (varM 0)))) (orT (tstM (op2M neG (biM lenG [(varM 0)]) (conM (.int 4)))) (notT (tstM (callM F__law_are_kinds [(op2M ixG (varM 0) (conM (.int 0)))]))))) (retM (conM (.bl false))) nxtM)
    (seqM (forM (seqI (slM (varM 0) (someP (conM (.int 1))) noP)) (namG 1)
    B__law_is_road_1)
    (retM (op2M neG (op2M ixG (varM 0) (conM (.int 2))) (tupM [])))))
def F__law_is_road : List D → R := run0 3 m__law_is_road
theorem d__law_is_road {f : Addr} {k : Nat} (B : Bn P w K mg T) (h__law_are_kinds : Kn ⟨P, w, K, mg, T⟩ base k "_law_are_kinds" (sp0 ⟨P, w, K, mg, T⟩ 1 F__law_are_kinds)) (h__law_int : Kn ⟨P, w, K, mg, T⟩ base k "_law_int" (sp0 ⟨P, w, K, mg, T⟩ 3 F__law_int)) : Der P w K mg base T N__law_is_road "_law_is_road" s__law_is_road f k m__law_is_road := fun cdv A outer s H E hr hu tk po =>
  have nd : N__law_is_road.Nodup := c__law_is_road.nd; have hu4 := Nat.lt_of_succ_lt hu
  (s_cons (s_if (PW.pt (w_or (t_not (t_val (e_isi .tuple B.isinstance B.tuple blt_tuple (e_var 0)))) (w_or (t_cmp (o_ne hu4) (e_bi c_len B.len blt_len (a_cons (e_var 0) a_nil)) e_int) (w_or1 (t_not (t_val (e_call h__law_are_kinds hr tk rfl (a_cons (e_ix hu (e_var 0) e_int) a_nil)))))))) (s_one (s_ret e_bl)) s_nil)
    (s_cons (s_for po rfl (i_seq (e_sl (e_var 0) (p_some e_int) p_none)) (g_nam 1 nd)
    (s_cons (s_if (PW.pt (w_or (t_not (t_val (e_isi .tuple B.isinstance B.tuple blt_tuple (e_var 1)))) (w_or1 (t_cmp o_gt (e_bi c_len B.len blt_len (a_cons (e_var 1) a_nil)) e_int)))) (s_one (s_ret e_bl)) s_nil)
    (s_one (s_if (t_cmp (o_ne hu4) (e_lc (.one 2) [("cell", 2)] rfl nd (i_seq (e_var 1)) (blkOk_by (N := N__law_is_road) (sc := defScope s__law_is_road) (by decide +kernel)) (fun _ _ _ _ _ => (pg_name (i := 2) nd rfl (Or.inl rfl))) (fun _ _ _ _ _ tk => (ts_one (t_not (t_val (e_call h__law_int hr tk rfl (a_cons (e_var 2) (a_cons e_int (a_cons (e_op o_sub (e_bi c_len B.len blt_len (a_cons (e_ix hu (e_var 0) e_int) a_nil)) e_int) a_nil)))))))) (fun _ _ _ _ _ tk => (e_var 2)) (by decide)) (e_lst a_nil)) (s_one (s_ret e_bl)) s_nil))))
    (s_one (s_ret (e_cmp (o_ne hu4) (e_ix hu (e_var 0) e_int) (e_tup a_nil))))))
theorem ok__law_is_road {f : Addr} {fd : FuncData} {k : Nat} (B : Bn P w K mg T) (h__law_are_kinds : Kn ⟨P, w, K, mg, T⟩ base k "_law_are_kinds" (sp0 ⟨P, w, K, mg, T⟩ 1 F__law_are_kinds)) (h__law_int : Kn ⟨P, w, K, mg, T⟩ base k "_law_int" (sp0 ⟨P, w, K, mg, T⟩ 3 F__law_int)) (Fu : Fun K "_law_is_road" "_law_is_road" s__law_is_road f fd) : FnOk P w K mg base (L2.CX P w) (k + 1) f fd p__law_is_road (sp0 ⟨P, w, K, mg, T⟩ 1 F__law_is_road) :=
  ok0 Fu c__law_is_road (d__law_is_road B h__law_are_kinds h__law_int) rfl (fun _ _ => rfl)
abbrev s__law_odd : Stmt := topS 31
abbrev N__law_odd : List Str := ["sack", "some"]
abbrev p__law_odd : List Str := ["sack"]
theorem c__law_odd : FnScope N__law_odd p__law_odd (defScope s__law_odd) := ⟨rfl, rfl, rfl, by decide +kernel, rfl, by decide +kernel, by decide +kernel⟩
def m__law_odd : MS :=
  (seqM (asgM (lstM [(conM .non), (conM (.bl true)), (conM (.bl false)), (conM (.int 0)), (conM (.int 1)), (conM (.int 2)), (conM (.int 3)), (conM (.int 4)), (op1M negG (conM (.int 1))), (op2M powG (conM (.int 10)) (conM (.int 30))), (conM (.str "")), (conM (.str "first")), (conM (.str "left")), (conM (.str "right")), (tupM []), (lstM []), (tupM [(conM (.int 0))]), (tupM [(conM (.int 0)), (conM (.int 1))])]) (namG 1))
    (retM (callC 0 F__law_pick [(varM 0), (op2M addG (varM 1) (lstM [(tupM [(conM (.str "left"))]), (tupM [(conM (.str "right")), (conM (.str "left"))]), (tupM [(tupM []), (tupM [])]), (tupM [(tupM [(tupM []), (tupM [])])]), (tupM [(conM (.int 0)), (conM (.int 0)), (conM (.int 0)), (conM (.int 0)), (conM (.int 0))]), (conM (.str "stay"))]))])))
def F__law_odd : List D → Cell → R1 := run1 2 0 m__law_odd
theorem d__law_odd {f : Addr} {k : Nat} (B : Bn P w K mg T) (h__law_pick : Kn ⟨P, w, K, mg, T⟩ base k "_law_pick" (sp1 ⟨P, w, K, mg, T⟩ 2 0 F__law_pick)) : Der P w K mg base T N__law_odd "_law_odd" s__law_odd f k m__law_odd := fun cdv A outer s H E hr hu tk po =>
  have nd : N__law_odd.Nodup := c__law_odd.nd; have hu4 := Nat.lt_of_succ_lt hu
  (s_cons (s_set 1 nd (e_lst (a_cons e_non (a_cons e_bl (a_cons e_bl (a_cons e_int (a_cons e_int (a_cons e_int (a_cons e_int (a_cons e_int (a_cons (e_un o_neg e_int) (a_cons (e_op o_pow e_int e_int) (a_cons e_str (a_cons e_str (a_cons e_str (a_cons e_str (a_cons (e_tup a_nil) (a_cons (e_lst a_nil) (a_cons (e_tup (a_cons e_int a_nil)) (a_cons (e_tup (a_cons e_int (a_cons e_int a_nil))) a_nil))))))))))))))))))))
    (s_one (s_ret (e_callC h__law_pick hr tk rfl (a_cons (e_var 0) (a_cons (e_op o_add (e_var 1) (e_lst (a_cons (e_tup (a_cons e_str a_nil)) (a_cons (e_tup (a_cons e_str (a_cons e_str a_nil))) (a_cons (e_tup (a_cons (e_tup a_nil) (a_cons (e_tup a_nil) a_nil))) (a_cons (e_tup (a_cons (e_tup (a_cons (e_tup a_nil) (a_cons (e_tup a_nil) a_nil))) a_nil)) (a_cons (e_tup (a_cons e_int (a_cons e_int (a_cons e_int (a_cons e_int (a_cons e_int a_nil)))))) (a_cons e_str a_nil)))))))) a_nil))))))
theorem ok__law_odd {f : Addr} {fd : FuncData} {k : Nat} (B : Bn P w K mg T) (h__law_pick : Kn ⟨P, w, K, mg, T⟩ base k "_law_pick" (sp1 ⟨P, w, K, mg, T⟩ 2 0 F__law_pick)) (Fu : Fun K "_law_odd" "_law_odd" s__law_odd f fd) : FnOk P w K mg base (L2.CX P w) (k + 1) f fd p__law_odd (sp1 ⟨P, w, K, mg, T⟩ 1 0 F__law_odd) :=
  ok1 Fu c__law_odd (d__law_odd B h__law_pick) rfl (fun _ _ _ => rfl)
abbrev s__law_bent : Stmt := topS 32
abbrev N__law_bent : List Str := ["sack", "value", "at", "way"]
abbrev p__law_bent : List Str := ["sack", "value"]
theorem c__law_bent : FnScope N__law_bent p__law_bent (defScope s__law_bent) := ⟨rfl, rfl, rfl, by decide +kernel, rfl, by decide +kernel, by decide +kernel⟩
def m__law_bent (R : List D → Cell → R1) : MS :=
  (seqM (ifM (orT (notT (tstM (isM .tuple (varM 1)))) (orT (tstM (op2M eqG (varM 1) (tupM []))) (tstM (op2M eqG (callC 0 F__law_grip [(varM 0), (conM (.int 8))]) (conM (.int 0)))))) (seqM (ifM (andT (tstM (isM .int (varM 1))) (andT (notT (tstM (isM .bool (varM 1)))) (tstM (op2M gtG (callC 0 F__law_grip [(varM 0), (conM (.int 3))]) (conM (.int 0)))))) (retM (op2M addG (varM 1) (callC 0 F__law_pick [(varM 0), (lstM [(op1M negG (conM (.int 1))), (conM (.int 1)), (conM (.int 1)), (conM (.int 2)), (op1M negG (conM (.int 3)))])]))) nxtM)
    (retM (callC 0 F__law_odd [(varM 0)]))) nxtM)
    (seqM (parsM [2, 3] [(callC 0 F__law_grip [(varM 0), (biM lenG [(varM 1)])]), (callC 0 F__law_grip [(varM 0), (conM (.int 11))])])
    (seqM (ifM (tstM (op2M eqG (varM 3) (conM (.int 0)))) (retM (op2M addG (slM (varM 1) noP (someP (varM 2))) (slM (varM 1) (someP (op2M addG (varM 2) (conM (.int 1)))) noP))) nxtM)
    (seqM (ifM (tstM (op2M eqG (varM 3) (conM (.int 1)))) (retM (op2M addG (slM (varM 1) noP (someP (op2M addG (varM 2) (conM (.int 1))))) (slM (varM 1) (someP (varM 2)) noP))) nxtM)
    (seqM (ifM (tstM (op2M eqG (varM 3) (conM (.int 2)))) (retM (op2M addG (op2M addG (slM (varM 1) noP (someP (varM 2))) (tupM [(callC 0 F__law_odd [(varM 0)])])) (slM (varM 1) (someP (varM 2)) noP))) nxtM)
    (seqM (ifM (tstM (op2M eqG (varM 3) (conM (.int 3)))) (retM (biM listG [(varM 1)])) nxtM)
    (retM (op2M addG (op2M addG (slM (varM 1) noP (someP (varM 2))) (tupM [(callC 0 R [(varM 0), (op2M ixG (varM 1) (varM 2))])])) (slM (varM 1) (someP (op2M addG (varM 2) (conM (.int 1)))) noP)))))))))
def Fr__law_bent : Nat → List D → Cell → R1
  | 0 => fun _ _ => .un
  | n + 1 => run1 4 0 (m__law_bent (Fr__law_bent n))
def F__law_bent : List D → Cell → R1 := Fr__law_bent 24
theorem d__law_bent {R : List D → Cell → R1} {f : Addr} {k : Nat} (B : Bn P w K mg T) (h__law_grip : Kn ⟨P, w, K, mg, T⟩ base k "_law_grip" (sp1 ⟨P, w, K, mg, T⟩ 2 0 F__law_grip)) (h__law_pick : Kn ⟨P, w, K, mg, T⟩ base k "_law_pick" (sp1 ⟨P, w, K, mg, T⟩ 2 0 F__law_pick)) (h__law_odd : Kn ⟨P, w, K, mg, T⟩ base k "_law_odd" (sp1 ⟨P, w, K, mg, T⟩ 1 0 F__law_odd)) (h__law_bent : Kn ⟨P, w, K, mg, T⟩ base k "_law_bent" (sp1 ⟨P, w, K, mg, T⟩ 2 0 R)) : Der P w K mg base T N__law_bent "_law_bent" s__law_bent f k (m__law_bent R) := fun cdv A outer s H E hr hu tk po =>
  have nd : N__law_bent.Nodup := c__law_bent.nd; have hu4 := Nat.lt_of_succ_lt hu
  (s_cons (s_if (PW.pt (w_or (t_not (t_val (e_isi .tuple B.isinstance B.tuple blt_tuple (e_var 1)))) (w_or (t_cmp (o_eq hu4) (e_var 1) (e_tup a_nil)) (w_or1 (t_cmp (o_eq hu4) (e_callC h__law_grip hr tk rfl (a_cons (e_var 0) (a_cons e_int a_nil))) e_int))))) (s_cons (s_if (PW.pt (w_and (t_val (e_isi .int B.isinstance B.int blt_int (e_var 1))) (w_and (t_not (t_val (e_isi .bool B.isinstance B.bool blt_bool (e_var 1)))) (w_and1 (t_cmp o_gt (e_callC h__law_grip hr tk rfl (a_cons (e_var 0) (a_cons e_int a_nil))) e_int))))) (s_one (s_ret (e_op o_add (e_var 1) (e_callC h__law_pick hr tk rfl (a_cons (e_var 0) (a_cons (e_lst (a_cons (e_un o_neg e_int) (a_cons e_int (a_cons e_int (a_cons e_int (a_cons (e_un o_neg e_int) a_nil)))))) a_nil)))))) s_nil)
    (s_one (s_ret (e_callC h__law_odd hr tk rfl (a_cons (e_var 0) a_nil))))) s_nil)
    (s_cons (s_par2 2 3 rfl nd (a_cons (e_callC h__law_grip hr tk rfl (a_cons (e_var 0) (a_cons (e_bi c_len B.len blt_len (a_cons (e_var 1) a_nil)) a_nil))) (a_cons (e_callC h__law_grip hr tk rfl (a_cons (e_var 0) (a_cons e_int a_nil))) a_nil)))
    (s_cons (s_if (t_cmp (o_eq hu4) (e_var 3) e_int) (s_one (s_ret (e_op o_add (e_sl (e_var 1) p_none (p_some (e_var 2))) (e_sl (e_var 1) (p_some (e_op o_add (e_var 2) e_int)) p_none)))) s_nil)
    (s_cons (s_if (t_cmp (o_eq hu4) (e_var 3) e_int) (s_one (s_ret (e_op o_add (e_sl (e_var 1) p_none (p_some (e_op o_add (e_var 2) e_int))) (e_sl (e_var 1) (p_some (e_var 2)) p_none)))) s_nil)
    (s_cons (s_if (t_cmp (o_eq hu4) (e_var 3) e_int) (s_one (s_ret (e_op o_add (e_op o_add (e_sl (e_var 1) p_none (p_some (e_var 2))) (e_tup (a_cons (e_callC h__law_odd hr tk rfl (a_cons (e_var 0) a_nil)) a_nil))) (e_sl (e_var 1) (p_some (e_var 2)) p_none)))) s_nil)
    (s_cons (s_if (t_cmp (o_eq hu4) (e_var 3) e_int) (s_one (s_ret (e_biT c_list B.list blt_list (a_cons (e_var 1) a_nil)))) s_nil)
    (s_one (s_ret (e_op o_add (e_op o_add (e_sl (e_var 1) p_none (p_some (e_var 2))) (e_tup (a_cons (e_callC h__law_bent hr tk rfl (a_cons (e_var 0) (a_cons (e_ix hu (e_var 1) (e_var 2)) a_nil))) a_nil))) (e_sl (e_var 1) (p_some (e_op o_add (e_var 2) e_int)) p_none))))))))))
theorem ok__law_bent {R : List D → Cell → R1} {f : Addr} {fd : FuncData} {k : Nat} (B : Bn P w K mg T) (h__law_grip : Kn ⟨P, w, K, mg, T⟩ base k "_law_grip" (sp1 ⟨P, w, K, mg, T⟩ 2 0 F__law_grip)) (h__law_pick : Kn ⟨P, w, K, mg, T⟩ base k "_law_pick" (sp1 ⟨P, w, K, mg, T⟩ 2 0 F__law_pick)) (h__law_odd : Kn ⟨P, w, K, mg, T⟩ base k "_law_odd" (sp1 ⟨P, w, K, mg, T⟩ 1 0 F__law_odd)) (h__law_bent : Kn ⟨P, w, K, mg, T⟩ base k "_law_bent" (sp1 ⟨P, w, K, mg, T⟩ 2 0 R)) (Fu : Fun K "_law_bent" "_law_bent" s__law_bent f fd) : FnOk P w K mg base (L2.CX P w) (k + 1) f fd p__law_bent (sp1 ⟨P, w, K, mg, T⟩ 2 0 (run1 4 0 (m__law_bent R))) :=
  ok1 Fu c__law_bent (d__law_bent B h__law_grip h__law_pick h__law_odd h__law_bent) rfl (fun _ _ _ => rfl)
theorem kr__law_bent {f : Addr} {fd : FuncData} {k : Nat} (B : Bn P w K mg T) (h__law_grip : Kn ⟨P, w, K, mg, T⟩ base k "_law_grip" (sp1 ⟨P, w, K, mg, T⟩ 2 0 F__law_grip)) (h__law_pick : Kn ⟨P, w, K, mg, T⟩ base k "_law_pick" (sp1 ⟨P, w, K, mg, T⟩ 2 0 F__law_pick)) (h__law_odd : Kn ⟨P, w, K, mg, T⟩ base k "_law_odd" (sp1 ⟨P, w, K, mg, T⟩ 1 0 F__law_odd)) (Fu : Fun K "_law_bent" "_law_bent" s__law_bent f fd) (hm : mg "_law_bent" = some (.ref f)) (hk : PySem.W.keepIn K (.ref f) = true) (hb : Binds K fd p__law_bent []) : ∀ n : Nat, Kn ⟨P, w, K, mg, T⟩ base (k + n) "_law_bent" (sp1 ⟨P, w, K, mg, T⟩ 2 0 (Fr__law_bent n))
  | 0 => ⟨f, fd, p__law_bent, ok_un1 rfl, hm, hk, hb⟩
  | n + 1 => ⟨f, fd, p__law_bent, ok__law_bent (k := k + n) B (h__law_grip.mono (Nat.le_add_right k n)) (h__law_pick.mono (Nat.le_add_right k n)) (h__law_odd.mono (Nat.le_add_right k n)) (kr__law_bent B h__law_grip h__law_pick h__law_odd Fu hm hk hb n) Fu, hm, hk, hb⟩
abbrev s__law_word : Stmt := topS 33
abbrev N__law_word : List Str := ["call"]
abbrev p__law_word : List Str := ["call"]
theorem c__law_word : FnScope N__law_word p__law_word (defScope s__law_word) := ⟨rfl, rfl, rfl, by decide +kernel, rfl, by decide +kernel, by decide +kernel⟩
def hs__law_word : List (Str × Str) := [("InvalidRoad", "road"), ("InvalidNumber", "number"), ("RoadError", "else")]
def fine__law_word : Str := "fine"
theorem w__law_word {f : Addr} {fd : FuncData} (B : Bn P w K mg T) (Fu : Fun K "_law_word" "_law_word" s__law_word f fd) (hm : mg "_law_word" = some (.ref f)) (hb : Binds K fd p__law_word []) : Wd ⟨P, w, K, mg, T⟩ "_law_word" hs__law_word fine__law_word := by
  obtain ⟨C_InvalidRoad, cm_InvalidRoad⟩ := B.c_InvalidRoad
  obtain ⟨C_InvalidNumber, cm_InvalidNumber⟩ := B.c_InvalidNumber
  obtain ⟨C_RoadError, cm_RoadError⟩ := B.c_RoadError
  exact ⟨s__law_word, f, fd, "call", N__law_word, _, _, _, _, _, _, _, _, _, _, Fu, hm, hb, c__law_word, rfl, .inl rfl, by decide, by decide, by decide, fun _ => rfl, rfl, .cons cm_InvalidRoad rfl (by decide) (.cons cm_InvalidNumber rfl (by decide) (.cons cm_RoadError rfl (by decide) (.nil)))⟩
abbrev s__law_right : Stmt := topS 34
abbrev N__law_right : List Str := ["value", "said", "due"]
abbrev p__law_right : List Str := ["value"]
theorem c__law_right : FnScope N__law_right p__law_right (defScope s__law_right) := ⟨rfl, rfl, rfl, by decide +kernel, rfl, by decide +kernel, by decide +kernel⟩
def m__law_right : MS :=
  (seqM (parsM [1, 2] [(callM F_is_road [(varM 0)]), (callM F__law_is_road [(varM 0)])])
    (seqM (ifM (orT (notT (tstM (isM .bool (varM 1)))) (tstM (op2M neG (varM 1) (varM 2)))) (retM (conM (.bl false))) nxtM)
    (retM (orM (varM 2) (op2M eqG (lamM sub_t hs__law_word fine__law_word (callM F_cells [(varM 0), (conM .non)])) (conM (.str "road")))))))
def F__law_right : List D → R := run0 3 m__law_right
theorem d__law_right {f c Pt : Addr} {k : Nat} (B : Bn P w K mg T) (h_is_road : Kn ⟨P, w, K, mg, T⟩ base k "is_road" (sp0 ⟨P, w, K, mg, T⟩ 1 F_is_road)) (h__law_is_road : Kn ⟨P, w, K, mg, T⟩ base k "_law_is_road" (sp0 ⟨P, w, K, mg, T⟩ 1 F__law_is_road)) (h_cells : Kn ⟨P, w, K, mg, T⟩ base k "cells" (sp0 ⟨P, w, K, mg, T⟩ 2 F_cells)) (w__law_word : Wd ⟨P, w, K, mg, T⟩ "_law_word" hs__law_word fine__law_word) (lc : Lc base mg T c Pt ("_law_right" ++ ".<locals>." ++ "<lambda>")) : DerC P w K mg base T N__law_right "_law_right" s__law_right f (k + 2) (.ref c) m__law_right := fun A outer s H E hr hu tk po =>
  have nd : N__law_right.Nodup := c__law_right.nd; have hu4 := Nat.lt_of_succ_lt hu
  (s_cons (s_par2 1 2 rfl nd (a_cons (e_call (h_is_road.mono (Nat.le_add_right k 2)) hr tk rfl (a_cons (e_var 0) a_nil)) (a_cons (e_call (h__law_is_road.mono (Nat.le_add_right k 2)) hr tk rfl (a_cons (e_var 0) a_nil)) a_nil)))
    (s_cons (s_if (PW.pt (w_or (t_not (t_val (e_isi .bool B.isinstance B.bool blt_bool (e_var 1)))) (w_or1 (t_cmp (o_ne hu4) (e_var 1) (e_var 2))))) (s_one (s_ret e_bl)) s_nil)
    (s_one (s_ret (e_or (e_var 2) (e_one (e_cmp (o_eq hu4) (e_lam w__law_word B.sub lc.tb rfl lc.mem lc.one hr (fun A outer s H E g c hr hu tk => (e_call h_cells hr tk rfl (a_cons (e_var 0) (a_cons e_non a_nil)))) (L := lamS_by (show lamSB (defScope s__law_right) _ = true by decide +kernel))) e_str)))))))
theorem ok__law_right {f c Pt : Addr} {k : Nat} {oc kV doc pm ct : Value} {od an : Option Addr} {osl : Array (Option Value)} (B : Bn P w K mg T) (h_is_road : Kn ⟨P, w, K, mg, T⟩ base k "is_road" (sp0 ⟨P, w, K, mg, T⟩ 1 F_is_road)) (h__law_is_road : Kn ⟨P, w, K, mg, T⟩ base k "_law_is_road" (sp0 ⟨P, w, K, mg, T⟩ 1 F__law_is_road)) (h_cells : Kn ⟨P, w, K, mg, T⟩ base k "cells" (sp0 ⟨P, w, K, mg, T⟩ 2 F_cells)) (w__law_word : Wd ⟨P, w, K, mg, T⟩ "_law_word" hs__law_word fine__law_word) (lc : Lc base mg T c Pt ("_law_right" ++ ".<locals>." ++ "<lambda>")) (lk : K.lookup f = some ⟨oc, od, .func (PySem.W.fnOf "_law_right" "_law_right" (defArgs s__law_right) (defBody s__law_right) (defScope s__law_right) .none kV doc pm an (.ref c) ct), osl⟩) (hcd : PySem.W.codeIn K (.ref c) "_law_right" = true) : FnOk P w K mg base (L2.CX P w) (k + 3) f (PySem.W.fnOf "_law_right" "_law_right" (defArgs s__law_right) (defBody s__law_right) (defScope s__law_right) .none kV doc pm an (.ref c) ct) p__law_right (sp0 ⟨P, w, K, mg, T⟩ 1 F__law_right) :=
  ok0' (obC lk hcd c__law_right (d__law_right B h_is_road h__law_is_road h_cells w__law_word lc)) rfl (fun _ _ => rfl)
abbrev s_law : Stmt := topS 35
abbrev N_law : List Str := ["script", "cell", "kind", "rows", "sack", "road", "turn", "most", "many", "odd", "value", "again", "found"]
abbrev p_law : List Str := ["script"]
theorem c_law : FnScope N_law p_law (defScope s_law) := ⟨rfl, rfl, rfl, by decide +kernel, rfl, by decide +kernel, by decide +kernel⟩
def B_law_1 : MS :=
  (seqM (ifM (notT (tstM (callM F__law_right [(varM 10)]))) (retM (conM (.bl false))) nxtM)
    (asgM (callC 0 F__law_bent [(varM 4), (varM 10)]) (namG 10)))
def B_law_2 : MS :=
  (seqM (asgM (varM 5) (namG 10))
    (forM (rng1I (conM (.int 3))) (namG 11)
    B_law_1))
def B_law_3 : MS :=
  (seqM (asgM (callM F_cells [(varM 5), (varM 8)]) (namG 12))
    (ifM (orT (notT (tstM (isM .tuple (varM 12)))) (tstM (op2M neG (varM 12) (op2M addG (op2M addG (op2M ixG (varM 5) (conM (.int 1))) (op2M mulG (op2M ixG (varM 5) (conM (.int 2))) (varM 8))) (op2M ixG (varM 5) (conM (.int 3))))))) (retM (conM (.bl false))) nxtM))
def B_law_4 : MS :=
  (ifM (tstM (op2M neG (lamM sub_t hs__law_word fine__law_word (callM F_cells [(varM 5), (varM 9)])) (conM (.str "number")))) (retM (conM (.bl false))) nxtM)
def B_law_5 : MS :=
  (scpM [4] (seqM (asgM (callN F__law_sack [(varM 1), (conM (.int 3))]) (namG 4))
    (seqM (asgM (callC 0 F__law_road [(varM 4), (conM (.int 4))]) (namG 5))
    (seqM (forM (rng1I (conM (.int 14))) (namG 6)
    B_law_2)
    (seqM (ifM (notT (tstM (callM F__law_right [(callC 0 F__law_odd [(varM 4)])]))) (retM (conM (.bl false))) nxtM)
    (seqM (asgM (op2M fdivG (op2M subG (op2M subG (conM (.int 200)) (biM lenG [(op2M ixG (varM 5) (conM (.int 1)))])) (biM lenG [(op2M ixG (varM 5) (conM (.int 3)))])) (biM lenG [(op2M ixG (varM 5) (conM (.int 2)))])) (namG 7))
    (seqM (forM (seqI (tupM [(conM (.int 0)), (conM (.int 1)), (conM (.int 2)), (conM (.int 7)), (varM 7)])) (namG 8)
    B_law_3)
    (forM (seqI (tupM [(conM .non), (op1M negG (conM (.int 1))), (op2M addG (varM 7) (conM (.int 1))), (conM (.bl true)), (conM (.str "2")), (op2M powG (conM (.int 10)) (conM (.int 30)))])) (namG 9)
    B_law_4))))))))
def C_law_1 : ME :=
  (lcM (seqI (varM 3)) (.one 10) (notT (tstM (callM F__law_right [(varM 10)]))) (varM 10) [10])
def m_law : MS :=
  (seqM (forM (seqI (slM (op2M addG (lstM [(conM (.int 0))]) (varM 0)) noP (someP (conM (.int 10))))) (namG 1)
    B_law_5)
    (seqM (asgM (tupM [(tupM [(conM (.str "left")), (conM (.str "right"))]), (tupM [(conM (.str "stay"))])]) (namG 2))
    (seqM (asgM (lstM [(tupM [(tupM [(varM 2)]), (tupM []), (tupM [(conM (.int 0))]), (tupM [])]), (tupM [(tupM [(varM 2)]), (tupM []), (tupM []), (tupM [(conM (.int 0))])]), (tupM [(tupM [(varM 2)]), (tupM [(conM (.int 0))]), (tupM [(conM (.int 1))]), (tupM [])]), (tupM [(op2M mulG (tupM [(varM 2)]) (conM (.int 5))), (tupM []), (tupM [(conM (.int 0))]), (tupM [])])]) (namG 3))
    (seqM (asgM (op2M addG (varM 3) (lstM [(tupM [(tupM [(varM 2)]), (op2M mulG (tupM [(conM (.int 0))]) (conM (.int 5))), (tupM [(conM (.int 0))]), (tupM [])]), (tupM [(tupM [(varM 2)]), (op2M mulG (tupM [(conM (.int 0))]) (conM (.int 4))), (op2M mulG (tupM [(conM (.int 0))]) (conM (.int 4))), (op2M mulG (tupM [(conM (.int 0))]) (conM (.int 4)))]), (tupM [(varM 2), (tupM []), (tupM [(conM (.int 0))]), (tupM [])])])) (namG 3))
    (seqM (asgM (op2M addG (varM 3) (lstM [(tupM [(tupM [(revM (varM 2))]), (tupM []), (tupM [(conM (.int 0))]), (tupM [])]), (tupM [(tupM [(tupM [(tupM [(conM (.str "right")), (conM (.str "left"))]), (tupM [])])]), (tupM []), (tupM [(conM (.int 0))]), (tupM [])]), (tupM [(tupM [(varM 2)]), (lstM []), (tupM [(conM (.int 0))]), (tupM [])])])) (namG 3))
    (seqM (asgM (op2M addG (varM 3) (lstM [(tupM [(tupM [(tupM [(tupM [(conM (.str "left")), (conM (.str "left"))]), (tupM [])])]), (tupM []), (tupM [(conM (.int 0))]), (tupM [])]), (tupM [(tupM [(tupM [(tupM [(conM (.str "up"))]), (tupM [])])]), (tupM []), (tupM [(conM (.int 0))]), (tupM [])]), (tupM [(tupM []), (tupM []), (tupM [(conM (.int 0))]), (tupM [])])])) (namG 3))
    (retM (op2M eqG C_law_1 (lstM [])))))))))
def F_law : List D → R := run0 13 m_law
theorem d_law {f c Pt : Addr} {k : Nat} (B : Bn P w K mg T) (h__law_sack : Kn ⟨P, w, K, mg, T⟩ base k "_law_sack" (spN ⟨P, w, K, mg, T⟩ 2 F__law_sack)) (h__law_road : Kn ⟨P, w, K, mg, T⟩ base k "_law_road" (sp1 ⟨P, w, K, mg, T⟩ 2 0 F__law_road)) (h__law_right : Kn ⟨P, w, K, mg, T⟩ base k "_law_right" (sp0 ⟨P, w, K, mg, T⟩ 1 F__law_right)) (h__law_bent : Kn ⟨P, w, K, mg, T⟩ base k "_law_bent" (sp1 ⟨P, w, K, mg, T⟩ 2 0 F__law_bent)) (h__law_odd : Kn ⟨P, w, K, mg, T⟩ base k "_law_odd" (sp1 ⟨P, w, K, mg, T⟩ 1 0 F__law_odd)) (h_cells : Kn ⟨P, w, K, mg, T⟩ base k "cells" (sp0 ⟨P, w, K, mg, T⟩ 2 F_cells)) (w__law_word : Wd ⟨P, w, K, mg, T⟩ "_law_word" hs__law_word fine__law_word) (lc : Lc base mg T c Pt ("law" ++ ".<locals>." ++ "<lambda>")) : DerC P w K mg base T N_law "law" s_law f (k + 2) (.ref c) m_law := fun A outer s H E hr hu tk po =>
  have nd : N_law.Nodup := c_law.nd; have hu4 := Nat.lt_of_succ_lt hu
  (s_cons (s_for po rfl (i_seq (e_sl (e_op o_add (e_lst (a_cons e_int a_nil)) (e_var 0)) p_none (p_some e_int))) (g_nam 1 nd)
    (s_scp [4] (s_cons (s_set 4 nd (e_callN (h__law_sack.mono (Nat.le_add_right k 2)) hr tk rfl (a_cons (e_var 1) (a_cons e_int a_nil))))
    (s_cons (s_set 5 nd (e_callC (h__law_road.mono (Nat.le_add_right k 2)) hr tk rfl (a_cons (e_var 4) (a_cons e_int a_nil))))
    (s_cons (s_for po rfl (i_rng1 B.range (a_cons e_int a_nil)) (g_nam 6 nd)
    (s_cons (s_set 10 nd (e_var 5))
    (s_one (s_for po rfl (i_rng1 B.range (a_cons e_int a_nil)) (g_nam 11 nd)
    (s_cons (s_if (t_not (t_val (e_call (h__law_right.mono (Nat.le_add_right k 2)) hr tk rfl (a_cons (e_var 10) a_nil)))) (s_one (s_ret e_bl)) s_nil)
    (s_one (s_set 10 nd (e_callC (h__law_bent.mono (Nat.le_add_right k 2)) hr tk rfl (a_cons (e_var 4) (a_cons (e_var 10) a_nil))))))))))
    (s_cons (s_if (t_not (t_val (e_call (h__law_right.mono (Nat.le_add_right k 2)) hr tk rfl (a_cons (e_callC (h__law_odd.mono (Nat.le_add_right k 2)) hr tk rfl (a_cons (e_var 4) a_nil)) a_nil)))) (s_one (s_ret e_bl)) s_nil)
    (s_cons (s_set 7 nd (e_op o_fdiv (e_op o_sub (e_op o_sub e_int (e_bi c_len B.len blt_len (a_cons (e_ix hu (e_var 5) e_int) a_nil))) (e_bi c_len B.len blt_len (a_cons (e_ix hu (e_var 5) e_int) a_nil))) (e_bi c_len B.len blt_len (a_cons (e_ix hu (e_var 5) e_int) a_nil))))
    (s_cons (s_for po rfl (i_seq (e_tup (a_cons e_int (a_cons e_int (a_cons e_int (a_cons e_int (a_cons (e_var 7) a_nil))))))) (g_nam 8 nd)
    (s_cons (s_set 12 nd (e_call (h_cells.mono (Nat.le_add_right k 2)) hr tk rfl (a_cons (e_var 5) (a_cons (e_var 8) a_nil))))
    (s_one (s_if (PW.pt (w_or (t_not (t_val (e_isi .tuple B.isinstance B.tuple blt_tuple (e_var 12)))) (w_or1 (t_cmp (o_ne hu4) (e_var 12) (e_op o_add (e_op o_add (e_ix hu (e_var 5) e_int) (e_op o_mul (e_ix hu (e_var 5) e_int) (e_var 8))) (e_ix hu (e_var 5) e_int)))))) (s_one (s_ret e_bl)) s_nil))))
    (s_one (s_for po rfl (i_seq (e_tup (a_cons e_non (a_cons (e_un o_neg e_int) (a_cons (e_op o_add (e_var 7) e_int) (a_cons e_bl (a_cons e_str (a_cons (e_op o_pow e_int e_int) a_nil)))))))) (g_nam 9 nd)
    (s_one (s_if (t_cmp (o_ne hu4) (e_lam w__law_word B.sub lc.tb rfl lc.mem lc.one hr (fun A outer s H E g c hr hu tk => (e_call h_cells hr tk rfl (a_cons (e_var 5) (a_cons (e_var 9) a_nil)))) (L := lamS_by (show lamSB (defScope s_law) _ = true by decide +kernel))) e_str) (s_one (s_ret e_bl)) s_nil))))))))))))
    (s_cons (s_set 2 nd (e_tup (a_cons (e_tup (a_cons e_str (a_cons e_str a_nil))) (a_cons (e_tup (a_cons e_str a_nil)) a_nil))))
    (s_cons (s_set 3 nd (e_lst (a_cons (e_tup (a_cons (e_tup (a_cons (e_var 2) a_nil)) (a_cons (e_tup a_nil) (a_cons (e_tup (a_cons e_int a_nil)) (a_cons (e_tup a_nil) a_nil))))) (a_cons (e_tup (a_cons (e_tup (a_cons (e_var 2) a_nil)) (a_cons (e_tup a_nil) (a_cons (e_tup a_nil) (a_cons (e_tup (a_cons e_int a_nil)) a_nil))))) (a_cons (e_tup (a_cons (e_tup (a_cons (e_var 2) a_nil)) (a_cons (e_tup (a_cons e_int a_nil)) (a_cons (e_tup (a_cons e_int a_nil)) (a_cons (e_tup a_nil) a_nil))))) (a_cons (e_tup (a_cons (e_op o_mul (e_tup (a_cons (e_var 2) a_nil)) e_int) (a_cons (e_tup a_nil) (a_cons (e_tup (a_cons e_int a_nil)) (a_cons (e_tup a_nil) a_nil))))) a_nil))))))
    (s_cons (s_set 3 nd (e_op o_add (e_var 3) (e_lst (a_cons (e_tup (a_cons (e_tup (a_cons (e_var 2) a_nil)) (a_cons (e_op o_mul (e_tup (a_cons e_int a_nil)) e_int) (a_cons (e_tup (a_cons e_int a_nil)) (a_cons (e_tup a_nil) a_nil))))) (a_cons (e_tup (a_cons (e_tup (a_cons (e_var 2) a_nil)) (a_cons (e_op o_mul (e_tup (a_cons e_int a_nil)) e_int) (a_cons (e_op o_mul (e_tup (a_cons e_int a_nil)) e_int) (a_cons (e_op o_mul (e_tup (a_cons e_int a_nil)) e_int) a_nil))))) (a_cons (e_tup (a_cons (e_var 2) (a_cons (e_tup a_nil) (a_cons (e_tup (a_cons e_int a_nil)) (a_cons (e_tup a_nil) a_nil))))) a_nil))))))
    (s_cons (s_set 3 nd (e_op o_add (e_var 3) (e_lst (a_cons (e_tup (a_cons (e_tup (a_cons (e_rev (e_var 2)) a_nil)) (a_cons (e_tup a_nil) (a_cons (e_tup (a_cons e_int a_nil)) (a_cons (e_tup a_nil) a_nil))))) (a_cons (e_tup (a_cons (e_tup (a_cons (e_tup (a_cons (e_tup (a_cons e_str (a_cons e_str a_nil))) (a_cons (e_tup a_nil) a_nil))) a_nil)) (a_cons (e_tup a_nil) (a_cons (e_tup (a_cons e_int a_nil)) (a_cons (e_tup a_nil) a_nil))))) (a_cons (e_tup (a_cons (e_tup (a_cons (e_var 2) a_nil)) (a_cons (e_lst a_nil) (a_cons (e_tup (a_cons e_int a_nil)) (a_cons (e_tup a_nil) a_nil))))) a_nil))))))
    (s_cons (s_set 3 nd (e_op o_add (e_var 3) (e_lst (a_cons (e_tup (a_cons (e_tup (a_cons (e_tup (a_cons (e_tup (a_cons e_str (a_cons e_str a_nil))) (a_cons (e_tup a_nil) a_nil))) a_nil)) (a_cons (e_tup a_nil) (a_cons (e_tup (a_cons e_int a_nil)) (a_cons (e_tup a_nil) a_nil))))) (a_cons (e_tup (a_cons (e_tup (a_cons (e_tup (a_cons (e_tup (a_cons e_str a_nil)) (a_cons (e_tup a_nil) a_nil))) a_nil)) (a_cons (e_tup a_nil) (a_cons (e_tup (a_cons e_int a_nil)) (a_cons (e_tup a_nil) a_nil))))) (a_cons (e_tup (a_cons (e_tup a_nil) (a_cons (e_tup a_nil) (a_cons (e_tup (a_cons e_int a_nil)) (a_cons (e_tup a_nil) a_nil))))) a_nil))))))
    (s_one (s_ret (e_cmp (o_eq hu4) (e_lc (.one 10) [("value", 10)] rfl nd (i_seq (e_var 3)) (blkOk_by (N := N_law) (sc := defScope s_law) (by decide +kernel)) (fun _ _ _ _ _ => (pg_name (i := 10) nd rfl (Or.inl rfl))) (fun _ _ _ _ _ tk => (ts_one (t_not (t_val (e_call (h__law_right.mono (Nat.le_add_right k 2)) hr tk rfl (a_cons (e_var 10) a_nil)))))) (fun _ _ _ _ _ tk => (e_var 10)) (by decide)) (e_lst a_nil))))))))))
theorem ok_law {f c Pt : Addr} {k : Nat} {oc kV doc pm ct : Value} {od an : Option Addr} {osl : Array (Option Value)} (B : Bn P w K mg T) (h__law_sack : Kn ⟨P, w, K, mg, T⟩ base k "_law_sack" (spN ⟨P, w, K, mg, T⟩ 2 F__law_sack)) (h__law_road : Kn ⟨P, w, K, mg, T⟩ base k "_law_road" (sp1 ⟨P, w, K, mg, T⟩ 2 0 F__law_road)) (h__law_right : Kn ⟨P, w, K, mg, T⟩ base k "_law_right" (sp0 ⟨P, w, K, mg, T⟩ 1 F__law_right)) (h__law_bent : Kn ⟨P, w, K, mg, T⟩ base k "_law_bent" (sp1 ⟨P, w, K, mg, T⟩ 2 0 F__law_bent)) (h__law_odd : Kn ⟨P, w, K, mg, T⟩ base k "_law_odd" (sp1 ⟨P, w, K, mg, T⟩ 1 0 F__law_odd)) (h_cells : Kn ⟨P, w, K, mg, T⟩ base k "cells" (sp0 ⟨P, w, K, mg, T⟩ 2 F_cells)) (w__law_word : Wd ⟨P, w, K, mg, T⟩ "_law_word" hs__law_word fine__law_word) (lc : Lc base mg T c Pt ("law" ++ ".<locals>." ++ "<lambda>")) (lk : K.lookup f = some ⟨oc, od, .func (PySem.W.fnOf "law" "law" (defArgs s_law) (defBody s_law) (defScope s_law) .none kV doc pm an (.ref c) ct), osl⟩) (hcd : PySem.W.codeIn K (.ref c) "law" = true) : FnOk P w K mg base (L2.CX P w) (k + 3) f (PySem.W.fnOf "law" "law" (defArgs s_law) (defBody s_law) (defScope s_law) .none kV doc pm an (.ref c) ct) p_law (sp0 ⟨P, w, K, mg, T⟩ 1 F_law) :=
  ok0' (obC lk hcd c_law (d_law B h__law_sack h__law_road h__law_right h__law_bent h__law_odd h_cells w__law_word lc)) rfl (fun _ _ => rfl)
end
/-! ### what is meant, as data -/
abbrev Way := Gm.Way
abbrev Knd := Gm.Kind
def wayS : Way → Str
  | .l => "left"
  | .r => "right"
  | .s => "stay"
def wayD (v : Way) : D := .str (wayS v)
def wsD (ws : List Way) : D := .tup (ws.map wayD)
def kindD (k : Knd) : D := .tup [wsD k.1, wsD k.2]
def kindsD (ks : List Knd) : D := .tup (ks.map kindD)
def rowD (row : List Knd) : D := .lst (row.map kindD)
def plS (p : Bool) : Str := if p = true then "second" else "first"
def plD (p : Bool) : D := .str (plS p)
def natD (n : Nat) : D := .int n
def ptD (b : List Nat) : D := .tup (b.map natD)
/-- the ways that may be drawn: ascending ones -/
def optsW : List (List Way) := [[], [.l], [.r], [.s], [.l, .r], [.l, .s], [.r, .s], [.l, .r, .s]]
structure GoodK (k : Knd) : Prop where
  a : k.1 ∈ optsW
  b : k.2 ∈ optsW
def GoodKs (ks : List Knd) : Prop := 1 ≤ ks.length ∧ ks.length ≤ 4 ∧ ∀ k ∈ ks, GoodK k
def GoodC (ks : List Knd) (b : List Nat) : Prop := ∀ i ∈ b, i < ks.length
def kAt (ks : List Knd) (i : Nat) : Knd := ks.getD i ([], [])
def rowOf (ks : List Knd) (b : List Nat) : List Knd := b.map (kAt ks)
theorem kAt_get {ks : List Knd} {i : Nat} (h : i < ks.length) : ks[i]? = some (kAt ks i) := by
  rw [List.getElem?_eq_getElem h, kAt, List.getD_eq_getElem?_getD, List.getElem?_eq_getElem h]; rfl
theorem kAt_good {ks : List Knd} (g : GoodKs ks) {i : Nat} (h : i < ks.length) : GoodK (kAt ks i) := g.2.2 _ (List.mem_of_getElem? (kAt_get h))
theorem big_of {n : Nat} (h : n ≤ 1000) : n ≤ big := Nat.le_trans h (by decide)
theorem ws_len {ws : List Way} (h : ws ∈ optsW) : ws.length ≤ 3 := by
  simp only [optsW, List.mem_cons, List.not_mem_nil, or_false] at h
  rcases h with rfl | rfl | rfl | rfl | rfl | rfl | rfl | rfl <;> decide
theorem goodW {k : Knd} (g : GoodK k) (m : Bool) : Gm.ways k m ∈ optsW := by
  cases m
  · exact g.a
  · exact g.b

/-! ### what is drawn -/
def Sk (c : Cell) : Prop := ∃ a b : Int, c = .lst [.int a, .int b]
theorem log_ok {n : Nat} (h : n ≤ 8000) : n.log2 < 9000 := Nat.lt_of_le_of_lt (Nat.log2_le_self n) (by omega)
theorem sack_ok (cell salt : Int) : ∃ c, F__law_sack [.int cell, .int salt] = .ok c ∧ Sk c := by
  have h1 : Nat.log2 10 < 9000 := log_ok (by decide)
  by_cases h : 1000000000000000000 ≤ cell
  · exact ⟨.lst [.int (cell / 10 + 41 * salt), .int ((cell * 73 + 1039 * salt) % 2017504241 + 43)], by simp [F__law_sack, m__law_sack, Mir.seqM, Mir.retM, Mir.retNM, Mir.drpM, Mir.asgM, Mir.ifM, Mir.toS, Mir.namG, Mir.tupG, Mir.allG, Mir.lsuG, Mir.varM, Mir.conM, Mir.op2M, Mir.op1M, Mir.tstM, Mir.andM, Mir.orM, Mir.notM, Mir.andT, Mir.orT, Mir.notT, Mir.iteM, Mir.chM, Mir.biM, Mir.isM, Mir.callM, Mir.callC, Mir.callN, Mir.argsM, Mir.O.bind, Mir.rd, Mir.rds, Mir.pures, Mir.tupM, Mir.lstM, Mir.nlsM, Mir.slM, Mir.noP, Mir.someP, Mir.slG, Mir.lcM, Mir.nlcM, Mir.wipeE, Mir.seqI, Mir.rng1I, Mir.rng2I, Mir.zpBI, Mir.seqU, Mir.strI, Mir.forM, Mir.setM, Mir.setC, Mir.parsM, Mir.setUs, Mir.meM, Mir.joinG, Mir.splG, Mir.lenG, Mir.intG, Mir.strG, Mir.listG, Mir.tupleG, Mir.isdic, Mir.isE, Mir.ixG, Mir.addG, Mir.subG, Mir.mulG, Mir.mulOk, Mir.fdivG, Mir.modG, Mir.powG, Mir.negG, Mir.ltG, Mir.leG, Mir.gtG, Mir.geG, Mir.isG, Mir.isNotG, Mir.isNon, Mir.env0, Mir.ins1, Mir.run0, Mir.run1, Mir.runN, Mir.frz, Mir.nxtM, Mir.unM, Mir.appM, Mir.isLst, Mir.kmIx, Mir.kmIn, Mir.scpM, Mir.lowU, Mir.lzpM, Mir.lixM, Mir.lixG, Mir.isLsU, Mir.tupC, Mir.wOf, Mir.frzW, Mir.frzC, Mir.dicM, Mir.nddM, Mir.callV, Mir.callM0, Mir.idxM, Mir.fndS, h, h1], _, _, rfl⟩
  · exact ⟨.lst [.int 0, .int ((cell * 73 + 1039 * salt) % 2017504241 + 43)], by simp [F__law_sack, m__law_sack, Mir.seqM, Mir.retM, Mir.retNM, Mir.drpM, Mir.asgM, Mir.ifM, Mir.toS, Mir.namG, Mir.tupG, Mir.allG, Mir.lsuG, Mir.varM, Mir.conM, Mir.op2M, Mir.op1M, Mir.tstM, Mir.andM, Mir.orM, Mir.notM, Mir.andT, Mir.orT, Mir.notT, Mir.iteM, Mir.chM, Mir.biM, Mir.isM, Mir.callM, Mir.callC, Mir.callN, Mir.argsM, Mir.O.bind, Mir.rd, Mir.rds, Mir.pures, Mir.tupM, Mir.lstM, Mir.nlsM, Mir.slM, Mir.noP, Mir.someP, Mir.slG, Mir.lcM, Mir.nlcM, Mir.wipeE, Mir.seqI, Mir.rng1I, Mir.rng2I, Mir.zpBI, Mir.seqU, Mir.strI, Mir.forM, Mir.setM, Mir.setC, Mir.parsM, Mir.setUs, Mir.meM, Mir.joinG, Mir.splG, Mir.lenG, Mir.intG, Mir.strG, Mir.listG, Mir.tupleG, Mir.isdic, Mir.isE, Mir.ixG, Mir.addG, Mir.subG, Mir.mulG, Mir.mulOk, Mir.fdivG, Mir.modG, Mir.powG, Mir.negG, Mir.ltG, Mir.leG, Mir.gtG, Mir.geG, Mir.isG, Mir.isNotG, Mir.isNon, Mir.env0, Mir.ins1, Mir.run0, Mir.run1, Mir.runN, Mir.frz, Mir.nxtM, Mir.unM, Mir.appM, Mir.isLst, Mir.kmIx, Mir.kmIn, Mir.scpM, Mir.lowU, Mir.lzpM, Mir.lixM, Mir.lixG, Mir.isLsU, Mir.tupC, Mir.wOf, Mir.frzW, Mir.frzC, Mir.dicM, Mir.nddM, Mir.callV, Mir.callM0, Mir.idxM, Mir.fndS, h, h1], _, _, rfl⟩
theorem grip_ok {c : Cell} (hc : Sk c) {many : Int} (hm : 0 < many) (hl : many ≤ 8000 ∨ many.natAbs.log2 < 9000) : ∃ r c', F__law_grip [.int many] c = .ok (.int r) c' ∧ Sk c' ∧ 0 ≤ r ∧ r < many := by
  obtain ⟨a, b, rfl⟩ := hc
  have hl : many.natAbs.log2 < 9000 := by
    rcases hl with h | h
    · exact log_ok (by omega)
    · exact h
  by_cases h : 0 < a
  · refine ⟨a % many, .lst [.int (a / many), .int b], ?_, ⟨_, _, rfl⟩, Int.emod_nonneg _ (by omega), Int.emod_lt_of_pos _ hm⟩
    simp [F__law_grip, m__law_grip, Mir.seqM, Mir.retM, Mir.retNM, Mir.drpM, Mir.asgM, Mir.ifM, Mir.toS, Mir.namG, Mir.tupG, Mir.allG, Mir.lsuG, Mir.varM, Mir.conM, Mir.op2M, Mir.op1M, Mir.tstM, Mir.andM, Mir.orM, Mir.notM, Mir.andT, Mir.orT, Mir.notT, Mir.iteM, Mir.chM, Mir.biM, Mir.isM, Mir.callM, Mir.callC, Mir.callN, Mir.argsM, Mir.O.bind, Mir.rd, Mir.rds, Mir.pures, Mir.tupM, Mir.lstM, Mir.nlsM, Mir.slM, Mir.noP, Mir.someP, Mir.slG, Mir.lcM, Mir.nlcM, Mir.wipeE, Mir.seqI, Mir.rng1I, Mir.rng2I, Mir.zpBI, Mir.seqU, Mir.strI, Mir.forM, Mir.setM, Mir.setC, Mir.parsM, Mir.setUs, Mir.meM, Mir.joinG, Mir.splG, Mir.lenG, Mir.intG, Mir.strG, Mir.listG, Mir.tupleG, Mir.isdic, Mir.isE, Mir.ixG, Mir.addG, Mir.subG, Mir.mulG, Mir.mulOk, Mir.fdivG, Mir.modG, Mir.powG, Mir.negG, Mir.ltG, Mir.leG, Mir.gtG, Mir.geG, Mir.isG, Mir.isNotG, Mir.isNon, Mir.env0, Mir.ins1, Mir.run0, Mir.run1, Mir.runN, Mir.frz, Mir.nxtM, Mir.unM, Mir.appM, Mir.isLst, Mir.kmIx, Mir.kmIn, Mir.scpM, Mir.lowU, Mir.lzpM, Mir.lixM, Mir.lixG, Mir.isLsU, Mir.tupC, Mir.wOf, Mir.frzW, Mir.frzC, Mir.dicM, Mir.nddM, Mir.callV, Mir.callM0, Mir.idxM, Mir.fndS, L2.atI, L2.ixN, h, hm, hl]
  · have hb : 0 ≤ (b * 35023 + 9001) % 2147483549 ∧ (b * 35023 + 9001) % 2147483549 < 2147483549 := ⟨Int.emod_nonneg _ (by omega), Int.emod_lt_of_pos _ (by omega)⟩
    generalize hc : (b * 35023 + 9001) % 2147483549 = c at hb
    refine ⟨(c * (c + 79) % 2147483587) / 593 % many, .lst [.int a, .int c], ?_, ⟨_, _, rfl⟩, Int.emod_nonneg _ (by omega), Int.emod_lt_of_pos _ hm⟩
    have h1 : (-18446744073709551616 : Int) < c := by omega
    have h2 : c < 18446744073709551616 := by omega
    have h4 : c.natAbs < 18446744073709551616 := by omega
    have h3 : Nat.log2 593 < 9000 := by decide
    simp [F__law_grip, m__law_grip, Mir.seqM, Mir.retM, Mir.retNM, Mir.drpM, Mir.asgM, Mir.ifM, Mir.toS, Mir.namG, Mir.tupG, Mir.allG, Mir.lsuG, Mir.varM, Mir.conM, Mir.op2M, Mir.op1M, Mir.tstM, Mir.andM, Mir.orM, Mir.notM, Mir.andT, Mir.orT, Mir.notT, Mir.iteM, Mir.chM, Mir.biM, Mir.isM, Mir.callM, Mir.callC, Mir.callN, Mir.argsM, Mir.O.bind, Mir.rd, Mir.rds, Mir.pures, Mir.tupM, Mir.lstM, Mir.nlsM, Mir.slM, Mir.noP, Mir.someP, Mir.slG, Mir.lcM, Mir.nlcM, Mir.wipeE, Mir.seqI, Mir.rng1I, Mir.rng2I, Mir.zpBI, Mir.seqU, Mir.strI, Mir.forM, Mir.setM, Mir.setC, Mir.parsM, Mir.setUs, Mir.meM, Mir.joinG, Mir.splG, Mir.lenG, Mir.intG, Mir.strG, Mir.listG, Mir.tupleG, Mir.isdic, Mir.isE, Mir.ixG, Mir.addG, Mir.subG, Mir.mulG, Mir.mulOk, Mir.fdivG, Mir.modG, Mir.powG, Mir.negG, Mir.ltG, Mir.leG, Mir.gtG, Mir.geG, Mir.isG, Mir.isNotG, Mir.isNon, Mir.env0, Mir.ins1, Mir.run0, Mir.run1, Mir.runN, Mir.frz, Mir.nxtM, Mir.unM, Mir.appM, Mir.isLst, Mir.kmIx, Mir.kmIn, Mir.scpM, Mir.lowU, Mir.lzpM, Mir.lixM, Mir.lixG, Mir.isLsU, Mir.tupC, Mir.wOf, Mir.frzW, Mir.frzC, Mir.dicM, Mir.nddM, Mir.callV, Mir.callM0, Mir.idxM, Mir.fndS, L2.atI, L2.ixN, h, hm, hl, hc, h1, h2, h4, h3]
theorem atI_ok {α : Type} {xs : List α} {r : Int} (h0 : 0 ≤ r) (h1 : r < xs.length) : ∃ d, L2.atI xs r = some d ∧ d ∈ xs := by
  have hr : r = ((r.toNat : Nat) : Int) := by omega
  have hl : r.toNat < xs.length := by omega
  rw [hr]
  exact ⟨xs[r.toNat], atI_nat (List.getElem?_eq_getElem hl), List.getElem_mem hl⟩

/-! ### what is drawn -/
theorem pick_ok {c : Cell} (hc : Sk c) {xs : List D} (hx : xs ≠ []) (hl : xs.length ≤ 1000) : ∃ d c', F__law_pick [.lst xs] c = .ok d c' ∧ Sk c' ∧ d ∈ xs := by
  have hp : 0 < xs.length := List.length_pos_iff.mpr hx
  obtain ⟨r, c', h1, h2, h3, h4⟩ := grip_ok hc (many := (xs.length : Int)) (by omega) (.inl (by omega))
  obtain ⟨d, h5, h6⟩ := atI_ok h3 h4
  refine ⟨d, c', ?_, h2, h6⟩
  simp [F__law_pick, m__law_pick, Mir.seqM, Mir.retM, Mir.retNM, Mir.drpM, Mir.asgM, Mir.ifM, Mir.toS, Mir.namG, Mir.tupG, Mir.allG, Mir.lsuG, Mir.varM, Mir.conM, Mir.op2M, Mir.op1M, Mir.tstM, Mir.andM, Mir.orM, Mir.notM, Mir.andT, Mir.orT, Mir.notT, Mir.iteM, Mir.chM, Mir.biM, Mir.isM, Mir.callM, Mir.callC, Mir.callN, Mir.argsM, Mir.O.bind, Mir.rd, Mir.rds, Mir.pures, Mir.tupM, Mir.lstM, Mir.nlsM, Mir.slM, Mir.noP, Mir.someP, Mir.slG, Mir.lcM, Mir.nlcM, Mir.wipeE, Mir.seqI, Mir.rng1I, Mir.rng2I, Mir.zpBI, Mir.seqU, Mir.strI, Mir.forM, Mir.setM, Mir.setC, Mir.parsM, Mir.setUs, Mir.meM, Mir.joinG, Mir.splG, Mir.lenG, Mir.intG, Mir.strG, Mir.listG, Mir.tupleG, Mir.isdic, Mir.isE, Mir.ixG, Mir.addG, Mir.subG, Mir.mulG, Mir.mulOk, Mir.fdivG, Mir.modG, Mir.powG, Mir.negG, Mir.ltG, Mir.leG, Mir.gtG, Mir.geG, Mir.isG, Mir.isNotG, Mir.isNon, Mir.env0, Mir.ins1, Mir.run0, Mir.run1, Mir.runN, Mir.frz, Mir.nxtM, Mir.unM, Mir.appM, Mir.isLst, Mir.kmIx, Mir.kmIn, Mir.scpM, Mir.lowU, Mir.lzpM, Mir.lixM, Mir.lixG, Mir.isLsU, Mir.tupC, Mir.wOf, Mir.frzW, Mir.frzC, Mir.dicM, Mir.nddM, Mir.callV, Mir.callM0, Mir.idxM, Mir.fndS, h1, h5]
theorem gripN_ok {c : Cell} (hc : Sk c) {many : Nat} (hm : 0 < many) (hl : many ≤ 8000) : ∃ (r : Nat) (c' : Cell), F__law_grip [.int many] c = .ok (natD r) c' ∧ Sk c' ∧ r < many := by
  obtain ⟨r, c', h1, h2, h3, h4⟩ := grip_ok hc (many := (many : Int)) (by omega) (.inl (by omega))
  refine ⟨r.toNat, c', ?_, h2, by omega⟩
  rw [h1, natD, show ((r.toNat : Nat) : Int) = r by omega]
theorem ways_ok {c : Cell} (hc : Sk c) : ∃ (ws : List Way) (c' : Cell), F__law_ways [] c = .ok (wsD ws) c' ∧ Sk c' ∧ ws ∈ optsW := by
  obtain ⟨d, c', h1, h2, h3⟩ := pick_ok hc (xs := ([[], [.l], [.r], [.l], [.r], [.s], [.l, .r], [.l, .s], [.r, .s], [.l, .r], [.l, .r, .s], [.r]] : List (List Way)).map wsD) (by simp) (by decide)
  obtain ⟨ws, h4, rfl⟩ := List.mem_map.mp h3
  refine ⟨ws, c', ?_, h2, ?_⟩
  · simp only [List.map_cons, List.map_nil, wsD, wayD, wayS] at h1
    simp [F__law_ways, m__law_ways, Mir.seqM, Mir.retM, Mir.retNM, Mir.drpM, Mir.asgM, Mir.ifM, Mir.toS, Mir.namG, Mir.tupG, Mir.allG, Mir.lsuG, Mir.varM, Mir.conM, Mir.op2M, Mir.op1M, Mir.tstM, Mir.andM, Mir.orM, Mir.notM, Mir.andT, Mir.orT, Mir.notT, Mir.iteM, Mir.chM, Mir.biM, Mir.isM, Mir.callM, Mir.callC, Mir.callN, Mir.argsM, Mir.O.bind, Mir.rd, Mir.rds, Mir.pures, Mir.tupM, Mir.lstM, Mir.nlsM, Mir.slM, Mir.noP, Mir.someP, Mir.slG, Mir.lcM, Mir.nlcM, Mir.wipeE, Mir.seqI, Mir.rng1I, Mir.rng2I, Mir.zpBI, Mir.seqU, Mir.strI, Mir.forM, Mir.setM, Mir.setC, Mir.parsM, Mir.setUs, Mir.meM, Mir.joinG, Mir.splG, Mir.lenG, Mir.intG, Mir.strG, Mir.listG, Mir.tupleG, Mir.isdic, Mir.isE, Mir.ixG, Mir.addG, Mir.subG, Mir.mulG, Mir.mulOk, Mir.fdivG, Mir.modG, Mir.powG, Mir.negG, Mir.ltG, Mir.leG, Mir.gtG, Mir.geG, Mir.isG, Mir.isNotG, Mir.isNon, Mir.env0, Mir.ins1, Mir.run0, Mir.run1, Mir.runN, Mir.frz, Mir.nxtM, Mir.unM, Mir.appM, Mir.isLst, Mir.kmIx, Mir.kmIn, Mir.scpM, Mir.lowU, Mir.lzpM, Mir.lixM, Mir.lixG, Mir.isLsU, Mir.tupC, Mir.wOf, Mir.frzW, Mir.frzC, Mir.dicM, Mir.nddM, Mir.callV, Mir.callM0, Mir.idxM, Mir.fndS, h1, big, wsD, wayD]
  · simp only [List.mem_cons, List.not_mem_nil, or_false] at h4
    simp only [optsW, List.mem_cons, List.not_mem_nil, or_false]
    rcases h4 with h | h | h | h | h | h | h | h | h | h | h | h <;> simp [h]
theorem made_of {α : Type} (a : α → D) {Q : α → Prop} : ∀ {ys : List D}, (∀ y ∈ ys, ∃ k, y = a k ∧ Q k) → ∃ ks : List α, ys = ks.map a ∧ ∀ k ∈ ks, Q k
  | [], _ => ⟨[], rfl, fun _ z => by cases z⟩
  | y :: ys, h => by
    obtain ⟨k, rfl, h1⟩ := h y List.mem_cons_self
    obtain ⟨ks, rfl, h2⟩ := made_of a fun z hz => h z (List.mem_cons_of_mem _ hz)
    exact ⟨k :: ks, rfl, fun j hj => by
      rcases List.mem_cons.mp hj with q | q
      · rw [q]; exact h1
      · exact h2 j q⟩
theorem kinds_ok {c : Cell} (hc : Sk c) {most : Nat} (hm : 1 ≤ most) (hm4 : most ≤ 4) : ∃ (ks : List Knd) (c' : Cell), F__law_kinds [natD most] c = .ok (kindsD ks) c' ∧ Sk c' ∧ 1 ≤ ks.length ∧ ks.length ≤ most ∧ ∀ k ∈ ks, GoodK k := by
  obtain ⟨r, c1, h1, h2, h3⟩ := gripN_ok hc (many := most) (by omega) (by omega)
  have hi : (rng1I (op2M addG (conM (.int 1)) (callC 0 F__law_grip [(varM 0), (varM 1)]))) [some (.c 0), some (.d (natD most)), none] [c] = .ok ((List.range (1 + r)).map fun i => .int (0 + (i : Nat))) [c1] := by
    have e : ((1 : Int) + (r : Int)).toNat = 1 + r := by omega
    have e2 : (1 : Int) + r ≤ 1000000 ∧ -1000000 ≤ (1 : Int) + r := by omega
    simp [Mir.seqM, Mir.retM, Mir.retNM, Mir.drpM, Mir.asgM, Mir.ifM, Mir.toS, Mir.namG, Mir.tupG, Mir.allG, Mir.lsuG, Mir.varM, Mir.conM, Mir.op2M, Mir.op1M, Mir.tstM, Mir.andM, Mir.orM, Mir.notM, Mir.andT, Mir.orT, Mir.notT, Mir.iteM, Mir.chM, Mir.biM, Mir.isM, Mir.callM, Mir.callC, Mir.callN, Mir.argsM, Mir.O.bind, Mir.rd, Mir.rds, Mir.pures, Mir.tupM, Mir.lstM, Mir.nlsM, Mir.slM, Mir.noP, Mir.someP, Mir.slG, Mir.lcM, Mir.nlcM, Mir.wipeE, Mir.seqI, Mir.rng1I, Mir.rng2I, Mir.zpBI, Mir.seqU, Mir.strI, Mir.forM, Mir.setM, Mir.setC, Mir.parsM, Mir.setUs, Mir.meM, Mir.joinG, Mir.splG, Mir.lenG, Mir.intG, Mir.strG, Mir.listG, Mir.tupleG, Mir.isdic, Mir.isE, Mir.ixG, Mir.addG, Mir.subG, Mir.mulG, Mir.mulOk, Mir.fdivG, Mir.modG, Mir.powG, Mir.negG, Mir.ltG, Mir.leG, Mir.gtG, Mir.geG, Mir.isG, Mir.isNotG, Mir.isNon, Mir.env0, Mir.ins1, Mir.run0, Mir.run1, Mir.runN, Mir.frz, Mir.nxtM, Mir.unM, Mir.appM, Mir.isLst, Mir.kmIx, Mir.kmIn, Mir.scpM, Mir.lowU, Mir.lzpM, Mir.lixM, Mir.lixG, Mir.isLsU, Mir.tupC, Mir.wOf, Mir.frzW, Mir.frzC, Mir.dicM, Mir.nddM, Mir.callV, Mir.callM0, Mir.idxM, Mir.fndS, natD, h1, e2, e] at h1 ⊢
  obtain ⟨ys, S', h5, ⟨c', rfl, hs'⟩, h7, h8⟩ := lcM_inv (it := (rng1I (op2M addG (conM (.int 1)) (callC 0 F__law_grip [(varM 0), (varM 1)])))) (tg := .one 2) (t := yesM) (f := (tupM [(callC 0 F__law_ways [(varM 0)]), (callC 0 F__law_ways [(varM 0)])])) (own := [2]) (fun S => ∃ c, S = [c] ∧ Sk c) (fun y => ∃ k : Knd, y = kindD k ∧ GoodK k) hi (big_of (by simp; omega)) (fun d hd S ⟨c, e, hs⟩ => by
      subst e
      obtain ⟨w1, c2, g1, g2, g3⟩ := ways_ok hs
      obtain ⟨w2, c3, g4, g5, g6⟩ := ways_ok g2
      refine ⟨[some (.c 0), some (.d (natD most)), some (.d d)], [c], kindD (w1, w2), [c3], rfl, rfl, ?_, ⟨c3, rfl, g5⟩, (w1, w2), rfl, g3, g6⟩
      simp [Mir.seqM, Mir.retM, Mir.retNM, Mir.drpM, Mir.asgM, Mir.ifM, Mir.toS, Mir.namG, Mir.tupG, Mir.allG, Mir.lsuG, Mir.varM, Mir.conM, Mir.op2M, Mir.op1M, Mir.tstM, Mir.andM, Mir.orM, Mir.notM, Mir.andT, Mir.orT, Mir.notT, Mir.iteM, Mir.chM, Mir.biM, Mir.isM, Mir.callM, Mir.callC, Mir.callN, Mir.argsM, Mir.O.bind, Mir.rd, Mir.rds, Mir.pures, Mir.tupM, Mir.lstM, Mir.nlsM, Mir.slM, Mir.noP, Mir.someP, Mir.slG, Mir.lcM, Mir.nlcM, Mir.wipeE, Mir.seqI, Mir.rng1I, Mir.rng2I, Mir.zpBI, Mir.seqU, Mir.strI, Mir.forM, Mir.setM, Mir.setC, Mir.parsM, Mir.setUs, Mir.meM, Mir.joinG, Mir.splG, Mir.lenG, Mir.intG, Mir.strG, Mir.listG, Mir.tupleG, Mir.isdic, Mir.isE, Mir.ixG, Mir.addG, Mir.subG, Mir.mulG, Mir.mulOk, Mir.fdivG, Mir.modG, Mir.powG, Mir.negG, Mir.ltG, Mir.leG, Mir.gtG, Mir.geG, Mir.isG, Mir.isNotG, Mir.isNon, Mir.env0, Mir.ins1, Mir.run0, Mir.run1, Mir.runN, Mir.frz, Mir.nxtM, Mir.unM, Mir.appM, Mir.isLst, Mir.kmIx, Mir.kmIn, Mir.scpM, Mir.lowU, Mir.lzpM, Mir.lixM, Mir.lixG, Mir.isLsU, Mir.tupC, Mir.wOf, Mir.frzW, Mir.frzC, Mir.dicM, Mir.nddM, Mir.callV, Mir.callM0, Mir.idxM, Mir.fndS, g1, g4, kindD]) ⟨c1, rfl, h2⟩
  obtain ⟨ks, rfl, hks⟩ := made_of kindD h8
  have hl : ks.length = 1 + r := by simpa using h7
  refine ⟨ks, c', ?_, hs', by omega, by omega, hks⟩
  have h5' : C__law_kinds_1 [some (.c 0), some (.d (natD most)), none] [c] = .ok (.d (.lst (ks.map kindD))) [c'] := h5
  simp [F__law_kinds, m__law_kinds, Mir.seqM, Mir.retM, Mir.retNM, Mir.drpM, Mir.asgM, Mir.ifM, Mir.toS, Mir.namG, Mir.tupG, Mir.allG, Mir.lsuG, Mir.varM, Mir.conM, Mir.op2M, Mir.op1M, Mir.tstM, Mir.andM, Mir.orM, Mir.notM, Mir.andT, Mir.orT, Mir.notT, Mir.iteM, Mir.chM, Mir.biM, Mir.isM, Mir.callM, Mir.callC, Mir.callN, Mir.argsM, Mir.O.bind, Mir.rd, Mir.rds, Mir.pures, Mir.tupM, Mir.lstM, Mir.nlsM, Mir.slM, Mir.noP, Mir.someP, Mir.slG, Mir.lcM, Mir.nlcM, Mir.wipeE, Mir.seqI, Mir.rng1I, Mir.rng2I, Mir.zpBI, Mir.seqU, Mir.strI, Mir.forM, Mir.setM, Mir.setC, Mir.parsM, Mir.setUs, Mir.meM, Mir.joinG, Mir.splG, Mir.lenG, Mir.intG, Mir.strG, Mir.listG, Mir.tupleG, Mir.isdic, Mir.isE, Mir.ixG, Mir.addG, Mir.subG, Mir.mulG, Mir.mulOk, Mir.fdivG, Mir.modG, Mir.powG, Mir.negG, Mir.ltG, Mir.leG, Mir.gtG, Mir.geG, Mir.isG, Mir.isNotG, Mir.isNon, Mir.env0, Mir.ins1, Mir.run0, Mir.run1, Mir.runN, Mir.frz, Mir.nxtM, Mir.unM, Mir.appM, Mir.isLst, Mir.kmIx, Mir.kmIn, Mir.scpM, Mir.lowU, Mir.lzpM, Mir.lixM, Mir.lixG, Mir.isLsU, Mir.tupC, Mir.wOf, Mir.frzW, Mir.frzC, Mir.dicM, Mir.nddM, Mir.callV, Mir.callM0, Mir.idxM, Mir.fndS, h5', kindsD]
theorem cells_ok {c : Cell} (hc : Sk c) {ks : List Knd} {least most : Nat} (hk : 1 ≤ ks.length) (hk4 : ks.length ≤ 4) (hlm : least ≤ most) (hm : most ≤ 1000) :
    ∃ (b : List Nat) (c' : Cell), F__law_cells [kindsD ks, natD least, natD most] c = .ok (ptD b) c' ∧ Sk c' ∧ least ≤ b.length ∧ b.length ≤ most ∧ GoodC ks b := by
  obtain ⟨r, c1, h1, h2, h3⟩ := gripN_ok hc (many := most - least + 1) (by omega) (by omega)
  have e0 : ((most - least + 1 : Nat) : Int) = (most : Int) - least + 1 := by omega
  have hi : (rng1I (op2M addG (varM 2) (callC 0 F__law_grip [(varM 0), (op2M addG (op2M subG (varM 3) (varM 2)) (conM (.int 1)))]))) [some (.c 0), some (.d (kindsD ks)), some (.d (natD least)), some (.d (natD most)), none] [c] = .ok ((List.range (least + r)).map fun i => .int (0 + (i : Nat))) [c1] := by
    have e : ((least : Int) + (r : Int)).toNat = least + r := by omega
    have e2 : (least : Int) + r ≤ 1000000 ∧ -1000000 ≤ (least : Int) + r := by omega
    rw [e0] at h1
    simp only [natD] at h1 ⊢
    simp [Mir.seqM, Mir.retM, Mir.retNM, Mir.drpM, Mir.asgM, Mir.ifM, Mir.toS, Mir.namG, Mir.tupG, Mir.allG, Mir.lsuG, Mir.varM, Mir.conM, Mir.op2M, Mir.op1M, Mir.tstM, Mir.andM, Mir.orM, Mir.notM, Mir.andT, Mir.orT, Mir.notT, Mir.iteM, Mir.chM, Mir.biM, Mir.isM, Mir.callM, Mir.callC, Mir.callN, Mir.argsM, Mir.O.bind, Mir.rd, Mir.rds, Mir.pures, Mir.tupM, Mir.lstM, Mir.nlsM, Mir.slM, Mir.noP, Mir.someP, Mir.slG, Mir.lcM, Mir.nlcM, Mir.wipeE, Mir.seqI, Mir.rng1I, Mir.rng2I, Mir.zpBI, Mir.seqU, Mir.strI, Mir.forM, Mir.setM, Mir.setC, Mir.parsM, Mir.setUs, Mir.meM, Mir.joinG, Mir.splG, Mir.lenG, Mir.intG, Mir.strG, Mir.listG, Mir.tupleG, Mir.isdic, Mir.isE, Mir.ixG, Mir.addG, Mir.subG, Mir.mulG, Mir.mulOk, Mir.fdivG, Mir.modG, Mir.powG, Mir.negG, Mir.ltG, Mir.leG, Mir.gtG, Mir.geG, Mir.isG, Mir.isNotG, Mir.isNon, Mir.env0, Mir.ins1, Mir.run0, Mir.run1, Mir.runN, Mir.frz, Mir.nxtM, Mir.unM, Mir.appM, Mir.isLst, Mir.kmIx, Mir.kmIn, Mir.scpM, Mir.lowU, Mir.lzpM, Mir.lixM, Mir.lixG, Mir.isLsU, Mir.tupC, Mir.wOf, Mir.frzW, Mir.frzC, Mir.dicM, Mir.nddM, Mir.callV, Mir.callM0, Mir.idxM, Mir.fndS, h1, e2, e]
  obtain ⟨ys, S', h5, ⟨c', rfl, hs'⟩, h7, h8⟩ := lcM_inv (it := (rng1I (op2M addG (varM 2) (callC 0 F__law_grip [(varM 0), (op2M addG (op2M subG (varM 3) (varM 2)) (conM (.int 1)))])))) (tg := .one 4) (t := yesM) (f := (callC 0 F__law_grip [(varM 0), (biM lenG [(varM 1)])])) (own := [4]) (fun S => ∃ c, S = [c] ∧ Sk c) (fun y => ∃ i : Nat, y = natD i ∧ i < ks.length) hi (big_of (by simp; omega)) (fun d hd S ⟨c, e, hs⟩ => by
      subst e
      obtain ⟨i, c2, g1, g2, g3⟩ := gripN_ok hs (many := ks.length) (by omega) (by omega)
      refine ⟨[some (.c 0), some (.d (kindsD ks)), some (.d (natD least)), some (.d (natD most)), some (.d d)], [c], natD i, [c2], rfl, rfl, ?_, ⟨c2, rfl, g2⟩, i, rfl, g3⟩
      simp [Mir.seqM, Mir.retM, Mir.retNM, Mir.drpM, Mir.asgM, Mir.ifM, Mir.toS, Mir.namG, Mir.tupG, Mir.allG, Mir.lsuG, Mir.varM, Mir.conM, Mir.op2M, Mir.op1M, Mir.tstM, Mir.andM, Mir.orM, Mir.notM, Mir.andT, Mir.orT, Mir.notT, Mir.iteM, Mir.chM, Mir.biM, Mir.isM, Mir.callM, Mir.callC, Mir.callN, Mir.argsM, Mir.O.bind, Mir.rd, Mir.rds, Mir.pures, Mir.tupM, Mir.lstM, Mir.nlsM, Mir.slM, Mir.noP, Mir.someP, Mir.slG, Mir.lcM, Mir.nlcM, Mir.wipeE, Mir.seqI, Mir.rng1I, Mir.rng2I, Mir.zpBI, Mir.seqU, Mir.strI, Mir.forM, Mir.setM, Mir.setC, Mir.parsM, Mir.setUs, Mir.meM, Mir.joinG, Mir.splG, Mir.lenG, Mir.intG, Mir.strG, Mir.listG, Mir.tupleG, Mir.isdic, Mir.isE, Mir.ixG, Mir.addG, Mir.subG, Mir.mulG, Mir.mulOk, Mir.fdivG, Mir.modG, Mir.powG, Mir.negG, Mir.ltG, Mir.leG, Mir.gtG, Mir.geG, Mir.isG, Mir.isNotG, Mir.isNon, Mir.env0, Mir.ins1, Mir.run0, Mir.run1, Mir.runN, Mir.frz, Mir.nxtM, Mir.unM, Mir.appM, Mir.isLst, Mir.kmIx, Mir.kmIn, Mir.scpM, Mir.lowU, Mir.lzpM, Mir.lixM, Mir.lixG, Mir.isLsU, Mir.tupC, Mir.wOf, Mir.frzW, Mir.frzC, Mir.dicM, Mir.nddM, Mir.callV, Mir.callM0, Mir.idxM, Mir.fndS, g1, kindsD]) ⟨c1, rfl, h2⟩
  obtain ⟨b, rfl, hb⟩ := made_of natD h8
  have hl : b.length = least + r := by simpa using h7
  refine ⟨b, c', ?_, hs', by omega, by omega, hb⟩
  have h5' : C__law_cells_1 [some (.c 0), some (.d (kindsD ks)), some (.d (natD least)), some (.d (natD most)), none] [c] = .ok (.d (.lst (b.map natD))) [c'] := h5
  simp [F__law_cells, m__law_cells, Mir.seqM, Mir.retM, Mir.retNM, Mir.drpM, Mir.asgM, Mir.ifM, Mir.toS, Mir.namG, Mir.tupG, Mir.allG, Mir.lsuG, Mir.varM, Mir.conM, Mir.op2M, Mir.op1M, Mir.tstM, Mir.andM, Mir.orM, Mir.notM, Mir.andT, Mir.orT, Mir.notT, Mir.iteM, Mir.chM, Mir.biM, Mir.isM, Mir.callM, Mir.callC, Mir.callN, Mir.argsM, Mir.O.bind, Mir.rd, Mir.rds, Mir.pures, Mir.tupM, Mir.lstM, Mir.nlsM, Mir.slM, Mir.noP, Mir.someP, Mir.slG, Mir.lcM, Mir.nlcM, Mir.wipeE, Mir.seqI, Mir.rng1I, Mir.rng2I, Mir.zpBI, Mir.seqU, Mir.strI, Mir.forM, Mir.setM, Mir.setC, Mir.parsM, Mir.setUs, Mir.meM, Mir.joinG, Mir.splG, Mir.lenG, Mir.intG, Mir.strG, Mir.listG, Mir.tupleG, Mir.isdic, Mir.isE, Mir.ixG, Mir.addG, Mir.subG, Mir.mulG, Mir.mulOk, Mir.fdivG, Mir.modG, Mir.powG, Mir.negG, Mir.ltG, Mir.leG, Mir.gtG, Mir.geG, Mir.isG, Mir.isNotG, Mir.isNon, Mir.env0, Mir.ins1, Mir.run0, Mir.run1, Mir.runN, Mir.frz, Mir.nxtM, Mir.unM, Mir.appM, Mir.isLst, Mir.kmIx, Mir.kmIn, Mir.scpM, Mir.lowU, Mir.lzpM, Mir.lixM, Mir.lixG, Mir.isLsU, Mir.tupC, Mir.wOf, Mir.frzW, Mir.frzC, Mir.dicM, Mir.nddM, Mir.callV, Mir.callM0, Mir.idxM, Mir.fndS, h5', ptD]

/-! ### plain data, not deeper than n, not longer than L -/
mutual
def pl : Nat → Nat → D → Bool
  | _, _, .non => true
  | _, _, .bl _ => true
  | _, _, .int _ => true
  | _, _, .str x => PyData.strOk x
  | n + 1, L, .tup xs => decide (xs.length ≤ L) && pls n L xs
  | n + 1, L, .lst xs => decide (xs.length ≤ L) && pls n L xs
  | _, _, _ => false
def pls : Nat → Nat → List D → Bool
  | _, _, [] => true
  | n, L, x :: xs => pl n L x && pls n L xs
end
mutual
theorem pl_can : ∀ (n L : Nat) (d : D), pl n L d = true → PyData.canLay0 d.P = true ∧ d.P.depth ≤ n
  | n, _, .non, _ => ⟨rfl, Nat.zero_le _⟩
  | n, _, .bl _, _ => ⟨rfl, Nat.zero_le _⟩
  | n, _, .int _, _ => ⟨rfl, Nat.zero_le _⟩
  | n, _, .str x, h => ⟨by cases n <;> simpa [pl, D.P, PyData.canLay0] using h, Nat.zero_le _⟩
  | 0, _, .tup xs, h => by simp [pl] at h
  | 0, _, .lst xs, h => by simp [pl] at h
  | n + 1, L, .tup xs, h => by
    have h' := Bool.and_eq_true_iff.mp (show (decide (xs.length ≤ L) && pls n L xs) = true from h)
    have := pls_can n L xs h'.2
    exact ⟨this.1, Nat.succ_le_succ this.2⟩
  | n + 1, L, .lst xs, h => by
    have h' := Bool.and_eq_true_iff.mp (show (decide (xs.length ≤ L) && pls n L xs) = true from h)
    have := pls_can n L xs h'.2
    exact ⟨this.1, Nat.succ_le_succ this.2⟩
  | 0, _, .dic _ _ _, h => by simp [pl] at h
  | n + 1, _, .dic _ _ _, h => by simp [pl] at h
  | 0, _, .scr _, h => by simp [pl] at h
  | n + 1, _, .scr _, h => by simp [pl] at h
theorem pls_can : ∀ (n L : Nat) (ds : List D), pls n L ds = true → PyData.canLayAll0 (Ps ds) = true ∧ PyData.depthAll (Ps ds) ≤ n
  | n, _, [], _ => ⟨rfl, Nat.zero_le _⟩
  | n, L, d :: ds, h => by
    have h' := Bool.and_eq_true_iff.mp (show (pl n L d && pls n L ds) = true from h)
    have a := pl_can n L d h'.1
    have b := pls_can n L ds h'.2
    exact ⟨by simp [Ps, PyData.canLayAll0, a.1, b.1], Nat.max_le.mpr ⟨a.2, b.2⟩⟩
end
theorem pl_sh {n L : Nat} {d : D} (h : pl n L d = true) (hn : n ≤ 64) : sh d = true := by
  have := pl_can n L d h
  unfold sh SeqAt.shaped
  rw [this.1, decide_eq_true (Nat.le_trans this.2 hn)]
  rfl
theorem pls_iff {n L : Nat} : ∀ {ds : List D}, pls n L ds = true ↔ ∀ d ∈ ds, pl n L d = true
  | [] => by simp [pls]
  | d :: ds => by
    rw [pls, Bool.and_eq_true, pls_iff]
    simp
theorem pl_tup {n L : Nat} {xs : List D} : pl (n + 1) L (.tup xs) = true ↔ xs.length ≤ L ∧ ∀ d ∈ xs, pl n L d = true := by
  rw [pl, Bool.and_eq_true, decide_eq_true_iff, pls_iff]
theorem pl_lst {n L : Nat} {xs : List D} : pl (n + 1) L (.lst xs) = true ↔ xs.length ≤ L ∧ ∀ d ∈ xs, pl n L d = true := by
  rw [pl, Bool.and_eq_true, decide_eq_true_iff, pls_iff]
theorem pl_mono : ∀ {n m L M : Nat} {d : D}, n ≤ m → L ≤ M → pl n L d = true → pl m M d = true := by
  intro n
  induction n with
  | zero =>
    intro m L M d h1 h2 h
    cases d <;> first | (cases m <;> simpa [pl] using h) | (simp [pl] at h)
  | succ n ih =>
    intro m L M d h1 h2 h
    obtain ⟨m', rfl⟩ : ∃ m', m = m' + 1 := ⟨m - 1, by omega⟩
    cases d with
    | tup xs =>
      rw [pl_tup] at h ⊢
      exact ⟨by omega, fun d hd => ih (by omega) h2 (h.2 d hd)⟩
    | lst xs =>
      rw [pl_lst] at h ⊢
      exact ⟨by omega, fun d hd => ih (by omega) h2 (h.2 d hd)⟩
    | _ => simp_all [pl]
theorem isdic_pl {n L : Nat} {d : D} (h : pl n L d = true) : isdic d = false := by
  cases d <;> first | rfl | (cases n <;> simp [pl] at h)
theorem ne_nilL {xs : List D} {n L : Nat} (h : pl n L (.lst xs) = true) (hn : n ≤ 64) : neG (.lst xs) (.lst []) = some (.bl (!xs.isEmpty)) := by
  have e : neG (.lst xs) (.lst []) = some (.bl (!eqD (.lst xs) (.lst []))) := by
    unfold neG
    rw [pl_sh h hn]
    rfl
  rw [e]
  cases xs <;> rfl
/-! ### words of ways -/
def isW (d : D) : Bool := [wayD .l, wayD .r, wayD .s].any fun z => eqD z d
theorem isW_way (w : Way) : isW (wayD w) = true := by cases w <;> decide +kernel
theorem isW_of {n L : Nat} {d : D} (hp : pl n L d = true) (h : isW d = true) : ∃ w : Way, d = wayD w := by
  cases d with
  | str x =>
    have hx : cl 0 (.str x) = true := by cases n <;> simpa [pl, cl] using hp
    simp only [isW, List.any_cons, List.any_nil, Bool.or_false, Bool.or_eq_true] at h
    rcases h with h | h | h
    · exact ⟨.l, ((cl_eq 0 0 _ _ (by decide +kernel) hx).mp h).symm⟩
    · exact ⟨.r, ((cl_eq 0 0 _ _ (by decide +kernel) hx).mp h).symm⟩
    · exact ⟨.s, ((cl_eq 0 0 _ _ (by decide +kernel) hx).mp h).symm⟩
  | _ => simp [isW, eqD, wayD, D.P, PyData.eqv] at h
theorem in_ways {n L : Nat} {d : D} (hp : pl n L d = true) (hn : n ≤ 64) : inG d (.tup [wayD .l, wayD .r, wayD .s]) = some (.bl (isW d)) ∧ notInG d (.lst [wayD .l, wayD .r, wayD .s]) = some (.bl (!isW d)) := by
  have h1 := pl_sh hp hn
  have h2 : sh (.tup [wayD .l, wayD .r, wayD .s]) = true := by decide +kernel
  have h3 : sh (.lst [wayD .l, wayD .r, wayD .s]) = true := by decide +kernel
  constructor
  · cases d <;> first | (simp [inG, h1, h2, isW]; done) | (cases n <;> simp [pl] at hp)
  · cases d <;> first | (simp [notInG, h1, h3, isW]; done) | (cases n <;> simp [pl] at hp)
theorem isW_str {d : D} (h : isE .str d = false) : isW d = false := by
  cases d <;> first | rfl | (simp [isE] at h)
def ltW (a b : Way) : Bool := decide ((wayS a).cps.toList < (wayS b).cps.toList)
def chW (ws : List Way) : Bool := (ws.zip (ws.drop 1)).all fun p => ltW p.1 p.2
/-! ### each once, in order -/
theorem gath_nd : ∀ (ts l : List Str), l.Nodup → (Tx.gath l ts).Nodup
  | [], l, h => h
  | k :: ts, l, h => gath_nd ts (Tx.put l k) (by
    unfold Tx.put
    split
    · exact h
    · rename_i hk; exact List.nodup_cons.mpr ⟨hk, h⟩)
theorem gath_pm : ∀ (ts l : List Str), ts.Nodup → (∀ k ∈ ts, k ∉ l) → (Tx.gath l ts).Perm (ts ++ l)
  | [], l, _, _ => List.Perm.refl _
  | k :: ts, l, nd, h => by
    obtain ⟨n1, n2⟩ := List.nodup_cons.mp nd
    have hk : Tx.put l k = k :: l := by unfold Tx.put; rw [if_neg (h k List.mem_cons_self)]
    show (Tx.gath (Tx.put l k) ts).Perm _
    rw [hk]
    refine (gath_pm ts (k :: l) n2 fun x hx => ?_).trans List.perm_middle
    intro z
    rcases List.mem_cons.mp z with z | z
    · exact n1 (z ▸ hx)
    · exact h x (List.mem_cons_of_mem _ hx) z
theorem ltW_trans {a b c : Way} (h : ltW a b = true) (h' : ltW b c = true) : ltW a c = true := by
  revert h h'
  cases a <;> cases b <;> cases c <;> decide +kernel
theorem chW_pw : ∀ ws : List Way, chW ws = true ↔ ws.Pairwise (fun a b => ltW a b = true)
  | [] => by simp [chW]
  | [a] => by simp [chW]
  | a :: b :: ws => by
    have ih := chW_pw (b :: ws)
    have e : chW (a :: b :: ws) = (ltW a b && chW (b :: ws)) := by simp [chW]
    rw [e, Bool.and_eq_true, ih]
    constructor
    · rintro ⟨h1, h2⟩
      refine List.pairwise_cons.mpr ⟨fun x hx => ?_, h2⟩
      rcases List.mem_cons.mp hx with z | z
      · rw [z]; exact h1
      · exact ltW_trans h1 (List.rel_of_pairwise_cons h2 z)
    · intro h
      obtain ⟨h1, h2⟩ := List.pairwise_cons.mp h
      exact ⟨h1 b List.mem_cons_self, h2⟩
theorem wayS_inj {a b : Way} (h : wayS a = wayS b) : a = b := by
  cases a <;> cases b <;> first | rfl | (exfalso; revert h; decide)
theorem lt_iff (a b : Way) : ltW a b = true ↔ leS (wayS a) (wayS b) ∧ a ≠ b := by
  have : ∀ a b : Way, ltW a b = (leB (wayS a) (wayS b) && decide (a ≠ b)) := by
    intro a b; cases a <;> cases b <;> decide +kernel
  rw [this, Bool.and_eq_true, decide_eq_true_iff]
  exact and_congr_left fun _ => decide_eq_true_iff
theorem srt_iff (ws : List Way) : ws.map wayS = srtU (ws.map wayS) ↔ chW ws = true := by
  rw [chW_pw]
  constructor
  · intro h
    have p1 : (ws.map wayS).Pairwise leS := by rw [h]; exact srtU_pw _
    have nd : (ws.map wayS).Nodup := by rw [h]; exact (srtU_perm _).nodup_iff.mpr (gath_nd _ _ List.nodup_nil)
    rw [List.pairwise_map] at p1
    have nd2 : ws.Pairwise (fun a b => a ≠ b) := (List.pairwise_map.mp nd).imp fun h e => h (by rw [e])
    exact (p1.and nd2).imp fun ⟨x, y⟩ => (lt_iff _ _).mpr ⟨x, y⟩
  · intro h
    have p1 : (ws.map wayS).Pairwise leS := List.pairwise_map.mpr (h.imp fun x => ((lt_iff _ _).mp x).1)
    have nd : (ws.map wayS).Nodup := List.pairwise_map.mpr (h.imp fun x e => ((lt_iff _ _).mp x).2 (wayS_inj e))
    have pm := gath_pm (ws.map wayS) [] nd (fun _ _ z => by cases z)
    rw [List.append_nil] at pm
    exact srtU_of pm.symm p1

/-! ### what is asked of arguments -/
theorem isnum_ok {i lo hi : Int} (h : lo ≤ i ∧ i ≤ hi) : F_is_number [.int i, .int lo, .int hi] = .ok (.bl true) := by
  simp [F_is_number, m_is_number, Mir.seqM, Mir.retM, Mir.retNM, Mir.drpM, Mir.asgM, Mir.ifM, Mir.toS, Mir.namG, Mir.tupG, Mir.allG, Mir.lsuG, Mir.varM, Mir.conM, Mir.op2M, Mir.op1M, Mir.tstM, Mir.andM, Mir.orM, Mir.notM, Mir.andT, Mir.orT, Mir.notT, Mir.iteM, Mir.chM, Mir.biM, Mir.isM, Mir.callM, Mir.callC, Mir.callN, Mir.argsM, Mir.O.bind, Mir.rd, Mir.rds, Mir.pures, Mir.tupM, Mir.lstM, Mir.nlsM, Mir.slM, Mir.noP, Mir.someP, Mir.slG, Mir.lcM, Mir.nlcM, Mir.wipeE, Mir.seqI, Mir.rng1I, Mir.rng2I, Mir.zpBI, Mir.seqU, Mir.strI, Mir.forM, Mir.setM, Mir.setC, Mir.parsM, Mir.setUs, Mir.meM, Mir.joinG, Mir.splG, Mir.lenG, Mir.intG, Mir.strG, Mir.listG, Mir.tupleG, Mir.isdic, Mir.isE, Mir.ixG, Mir.addG, Mir.subG, Mir.mulG, Mir.mulOk, Mir.fdivG, Mir.modG, Mir.powG, Mir.negG, Mir.ltG, Mir.leG, Mir.gtG, Mir.geG, Mir.isG, Mir.isNotG, Mir.isNon, Mir.env0, Mir.ins1, Mir.run0, Mir.run1, Mir.runN, Mir.frz, Mir.nxtM, Mir.unM, Mir.appM, Mir.isLst, Mir.kmIx, Mir.kmIn, Mir.scpM, Mir.lowU, Mir.lzpM, Mir.lixM, Mir.lixG, Mir.isLsU, Mir.tupC, Mir.wOf, Mir.frzW, Mir.frzC, Mir.dicM, Mir.nddM, Mir.callV, Mir.callM0, Mir.idxM, Mir.fndS, h.1, h.2]
theorem isnumB (i lo hi : Int) : F_is_number [.int i, .int lo, .int hi] = .ok (.bl (decide (lo ≤ i) && decide (i ≤ hi))) := by
  by_cases h1 : lo ≤ i
  · by_cases h2 : i ≤ hi <;> simp [F_is_number, m_is_number, Mir.seqM, Mir.retM, Mir.retNM, Mir.drpM, Mir.asgM, Mir.ifM, Mir.toS, Mir.namG, Mir.tupG, Mir.allG, Mir.lsuG, Mir.varM, Mir.conM, Mir.op2M, Mir.op1M, Mir.tstM, Mir.andM, Mir.orM, Mir.notM, Mir.andT, Mir.orT, Mir.notT, Mir.iteM, Mir.chM, Mir.biM, Mir.isM, Mir.callM, Mir.callC, Mir.callN, Mir.argsM, Mir.O.bind, Mir.rd, Mir.rds, Mir.pures, Mir.tupM, Mir.lstM, Mir.nlsM, Mir.slM, Mir.noP, Mir.someP, Mir.slG, Mir.lcM, Mir.nlcM, Mir.wipeE, Mir.seqI, Mir.rng1I, Mir.rng2I, Mir.zpBI, Mir.seqU, Mir.strI, Mir.forM, Mir.setM, Mir.setC, Mir.parsM, Mir.setUs, Mir.meM, Mir.joinG, Mir.splG, Mir.lenG, Mir.intG, Mir.strG, Mir.listG, Mir.tupleG, Mir.isdic, Mir.isE, Mir.ixG, Mir.addG, Mir.subG, Mir.mulG, Mir.mulOk, Mir.fdivG, Mir.modG, Mir.powG, Mir.negG, Mir.ltG, Mir.leG, Mir.gtG, Mir.geG, Mir.isG, Mir.isNotG, Mir.isNon, Mir.env0, Mir.ins1, Mir.run0, Mir.run1, Mir.runN, Mir.frz, Mir.nxtM, Mir.unM, Mir.appM, Mir.isLst, Mir.kmIx, Mir.kmIn, Mir.scpM, Mir.lowU, Mir.lzpM, Mir.lixM, Mir.lixG, Mir.isLsU, Mir.tupC, Mir.wOf, Mir.frzW, Mir.frzC, Mir.dicM, Mir.nddM, Mir.callV, Mir.callM0, Mir.idxM, Mir.fndS, h1, h2]
  · simp [F_is_number, m_is_number, Mir.seqM, Mir.retM, Mir.retNM, Mir.drpM, Mir.asgM, Mir.ifM, Mir.toS, Mir.namG, Mir.tupG, Mir.allG, Mir.lsuG, Mir.varM, Mir.conM, Mir.op2M, Mir.op1M, Mir.tstM, Mir.andM, Mir.orM, Mir.notM, Mir.andT, Mir.orT, Mir.notT, Mir.iteM, Mir.chM, Mir.biM, Mir.isM, Mir.callM, Mir.callC, Mir.callN, Mir.argsM, Mir.O.bind, Mir.rd, Mir.rds, Mir.pures, Mir.tupM, Mir.lstM, Mir.nlsM, Mir.slM, Mir.noP, Mir.someP, Mir.slG, Mir.lcM, Mir.nlcM, Mir.wipeE, Mir.seqI, Mir.rng1I, Mir.rng2I, Mir.zpBI, Mir.seqU, Mir.strI, Mir.forM, Mir.setM, Mir.setC, Mir.parsM, Mir.setUs, Mir.meM, Mir.joinG, Mir.splG, Mir.lenG, Mir.intG, Mir.strG, Mir.listG, Mir.tupleG, Mir.isdic, Mir.isE, Mir.ixG, Mir.addG, Mir.subG, Mir.mulG, Mir.mulOk, Mir.fdivG, Mir.modG, Mir.powG, Mir.negG, Mir.ltG, Mir.leG, Mir.gtG, Mir.geG, Mir.isG, Mir.isNotG, Mir.isNon, Mir.env0, Mir.ins1, Mir.run0, Mir.run1, Mir.runN, Mir.frz, Mir.nxtM, Mir.unM, Mir.appM, Mir.isLst, Mir.kmIx, Mir.kmIn, Mir.scpM, Mir.lowU, Mir.lzpM, Mir.lixM, Mir.lixG, Mir.isLsU, Mir.tupC, Mir.wOf, Mir.frzW, Mir.frzC, Mir.dicM, Mir.nddM, Mir.callV, Mir.callM0, Mir.idxM, Mir.fndS, h1]
theorem kind_chk : (optsW.all fun a => optsW.all fun b => isBl (F_is_kind [kindD (a, b)]) true) = true := by decide +kernel
theorem kind_ok {k : Knd} (h : GoodK k) : F_is_kind [kindD k] = .ok (.bl true) :=
  isBl_eq (List.all_eq_true.mp (List.all_eq_true.mp kind_chk k.1 h.a) k.2 h.b)
theorem all_bls (bs : List Bool) : Mir.allB [.lst (bs.map D.bl)] = some (.bl (bs.all id)) := by
  have h : blsOf (bs.map D.bl) = some bs := by
    induction bs with
    | nil => rfl
    | cons b bs ih => simp [blsOf, ih]
  simp [Mir.allB, h]
theorem all_tr {α : Type} (xs : List α) : Mir.allB [.lst (xs.map fun _ => D.bl true)] = some (.bl true) := by
  have := all_bls (xs.map fun _ => true)
  rw [List.map_map] at this
  rw [show (xs.map fun _ => D.bl true) = xs.map (D.bl ∘ fun _ => true) from rfl, this]
  congr 2
  induction xs with
  | nil => rfl
  | cons _ _ _ => simp
theorem kinds_are {ks : List Knd} (g : GoodKs ks) : F_are_kinds [kindsD ks] = .ok (.bl true) := by
  have hC : C_are_kinds_1 [some (.d (kindsD ks)), none] [] = .ok (.d (.lst (ks.map fun _ => D.bl true))) [] :=
    lcM_map kindD (fun _ => D.bl true) (by simp [Mir.seqM, Mir.retM, Mir.retNM, Mir.drpM, Mir.asgM, Mir.ifM, Mir.toS, Mir.namG, Mir.tupG, Mir.allG, Mir.lsuG, Mir.varM, Mir.conM, Mir.op2M, Mir.op1M, Mir.tstM, Mir.andM, Mir.orM, Mir.notM, Mir.andT, Mir.orT, Mir.notT, Mir.iteM, Mir.chM, Mir.biM, Mir.isM, Mir.callM, Mir.callC, Mir.callN, Mir.argsM, Mir.O.bind, Mir.rd, Mir.rds, Mir.pures, Mir.tupM, Mir.lstM, Mir.nlsM, Mir.slM, Mir.noP, Mir.someP, Mir.slG, Mir.lcM, Mir.nlcM, Mir.wipeE, Mir.seqI, Mir.rng1I, Mir.rng2I, Mir.zpBI, Mir.seqU, Mir.strI, Mir.forM, Mir.setM, Mir.setC, Mir.parsM, Mir.setUs, Mir.meM, Mir.joinG, Mir.splG, Mir.lenG, Mir.intG, Mir.strG, Mir.listG, Mir.tupleG, Mir.isdic, Mir.isE, Mir.ixG, Mir.addG, Mir.subG, Mir.mulG, Mir.mulOk, Mir.fdivG, Mir.modG, Mir.powG, Mir.negG, Mir.ltG, Mir.leG, Mir.gtG, Mir.geG, Mir.isG, Mir.isNotG, Mir.isNon, Mir.env0, Mir.ins1, Mir.run0, Mir.run1, Mir.runN, Mir.frz, Mir.nxtM, Mir.unM, Mir.appM, Mir.isLst, Mir.kmIx, Mir.kmIn, Mir.scpM, Mir.lowU, Mir.lzpM, Mir.lixM, Mir.lixG, Mir.isLsU, Mir.tupC, Mir.wOf, Mir.frzW, Mir.frzC, Mir.dicM, Mir.nddM, Mir.callV, Mir.callM0, Mir.idxM, Mir.fndS, kindsD]) (big_of (by have := g.2.1; omega)) fun k hk => ⟨_, rfl, rfl, by simp [Mir.seqM, Mir.retM, Mir.retNM, Mir.drpM, Mir.asgM, Mir.ifM, Mir.toS, Mir.namG, Mir.tupG, Mir.allG, Mir.lsuG, Mir.varM, Mir.conM, Mir.op2M, Mir.op1M, Mir.tstM, Mir.andM, Mir.orM, Mir.notM, Mir.andT, Mir.orT, Mir.notT, Mir.iteM, Mir.chM, Mir.biM, Mir.isM, Mir.callM, Mir.callC, Mir.callN, Mir.argsM, Mir.O.bind, Mir.rd, Mir.rds, Mir.pures, Mir.tupM, Mir.lstM, Mir.nlsM, Mir.slM, Mir.noP, Mir.someP, Mir.slG, Mir.lcM, Mir.nlcM, Mir.wipeE, Mir.seqI, Mir.rng1I, Mir.rng2I, Mir.zpBI, Mir.seqU, Mir.strI, Mir.forM, Mir.setM, Mir.setC, Mir.parsM, Mir.setUs, Mir.meM, Mir.joinG, Mir.splG, Mir.lenG, Mir.intG, Mir.strG, Mir.listG, Mir.tupleG, Mir.isdic, Mir.isE, Mir.ixG, Mir.addG, Mir.subG, Mir.mulG, Mir.mulOk, Mir.fdivG, Mir.modG, Mir.powG, Mir.negG, Mir.ltG, Mir.leG, Mir.gtG, Mir.geG, Mir.isG, Mir.isNotG, Mir.isNon, Mir.env0, Mir.ins1, Mir.run0, Mir.run1, Mir.runN, Mir.frz, Mir.nxtM, Mir.unM, Mir.appM, Mir.isLst, Mir.kmIx, Mir.kmIn, Mir.scpM, Mir.lowU, Mir.lzpM, Mir.lixM, Mir.lixG, Mir.isLsU, Mir.tupC, Mir.wOf, Mir.frzW, Mir.frzC, Mir.dicM, Mir.nddM, Mir.callV, Mir.callM0, Mir.idxM, Mir.fndS, kind_ok (g.2.2 k hk)]⟩
  have e1 : (1 : Int) ≤ (ks.length : Int) := by have := g.1; omega
  have e2 : (ks.length : Int) ≤ 4 := by have := g.2.1; omega
  have ha := all_tr ks
  unfold kindsD at hC ⊢
  simp only [Mir.allB] at ha
  simp [F_are_kinds, m_are_kinds, Mir.seqM, Mir.retM, Mir.retNM, Mir.drpM, Mir.asgM, Mir.ifM, Mir.toS, Mir.namG, Mir.tupG, Mir.allG, Mir.lsuG, Mir.varM, Mir.conM, Mir.op2M, Mir.op1M, Mir.tstM, Mir.andM, Mir.orM, Mir.notM, Mir.andT, Mir.orT, Mir.notT, Mir.iteM, Mir.chM, Mir.biM, Mir.isM, Mir.callM, Mir.callC, Mir.callN, Mir.argsM, Mir.O.bind, Mir.rd, Mir.rds, Mir.pures, Mir.tupM, Mir.lstM, Mir.nlsM, Mir.slM, Mir.noP, Mir.someP, Mir.slG, Mir.lcM, Mir.nlcM, Mir.wipeE, Mir.seqI, Mir.rng1I, Mir.rng2I, Mir.zpBI, Mir.seqU, Mir.strI, Mir.forM, Mir.setM, Mir.setC, Mir.parsM, Mir.setUs, Mir.meM, Mir.joinG, Mir.splG, Mir.lenG, Mir.intG, Mir.strG, Mir.listG, Mir.tupleG, Mir.isdic, Mir.isE, Mir.ixG, Mir.addG, Mir.subG, Mir.mulG, Mir.mulOk, Mir.fdivG, Mir.modG, Mir.powG, Mir.negG, Mir.ltG, Mir.leG, Mir.gtG, Mir.geG, Mir.isG, Mir.isNotG, Mir.isNon, Mir.env0, Mir.ins1, Mir.run0, Mir.run1, Mir.runN, Mir.frz, Mir.nxtM, Mir.unM, Mir.appM, Mir.isLst, Mir.kmIx, Mir.kmIn, Mir.scpM, Mir.lowU, Mir.lzpM, Mir.lixM, Mir.lixG, Mir.isLsU, Mir.tupC, Mir.wOf, Mir.frzW, Mir.frzC, Mir.dicM, Mir.nddM, Mir.callV, Mir.callM0, Mir.idxM, Mir.fndS, e1, e2, hC, Mir.allB, ha]
theorem part_is {ks : List Knd} {b : List Nat} {n : Int} (g : GoodKs ks) (hl : b.length ≤ n) (hn : n ≤ 1000) (hb : GoodC ks b) : F_is_stretch_of [kindsD ks, ptD b, .int n] = .ok (.bl true) := by
  have hC : C_is_stretch_of_1 [some (.d (kindsD ks)), some (.d (ptD b)), some (.d (.int n)), none] [] = .ok (.d (.lst (b.map fun _ => D.bl true))) [] :=
    lcM_map natD (fun _ => D.bl true) (by simp [Mir.seqM, Mir.retM, Mir.retNM, Mir.drpM, Mir.asgM, Mir.ifM, Mir.toS, Mir.namG, Mir.tupG, Mir.allG, Mir.lsuG, Mir.varM, Mir.conM, Mir.op2M, Mir.op1M, Mir.tstM, Mir.andM, Mir.orM, Mir.notM, Mir.andT, Mir.orT, Mir.notT, Mir.iteM, Mir.chM, Mir.biM, Mir.isM, Mir.callM, Mir.callC, Mir.callN, Mir.argsM, Mir.O.bind, Mir.rd, Mir.rds, Mir.pures, Mir.tupM, Mir.lstM, Mir.nlsM, Mir.slM, Mir.noP, Mir.someP, Mir.slG, Mir.lcM, Mir.nlcM, Mir.wipeE, Mir.seqI, Mir.rng1I, Mir.rng2I, Mir.zpBI, Mir.seqU, Mir.strI, Mir.forM, Mir.setM, Mir.setC, Mir.parsM, Mir.setUs, Mir.meM, Mir.joinG, Mir.splG, Mir.lenG, Mir.intG, Mir.strG, Mir.listG, Mir.tupleG, Mir.isdic, Mir.isE, Mir.ixG, Mir.addG, Mir.subG, Mir.mulG, Mir.mulOk, Mir.fdivG, Mir.modG, Mir.powG, Mir.negG, Mir.ltG, Mir.leG, Mir.gtG, Mir.geG, Mir.isG, Mir.isNotG, Mir.isNon, Mir.env0, Mir.ins1, Mir.run0, Mir.run1, Mir.runN, Mir.frz, Mir.nxtM, Mir.unM, Mir.appM, Mir.isLst, Mir.kmIx, Mir.kmIn, Mir.scpM, Mir.lowU, Mir.lzpM, Mir.lixM, Mir.lixG, Mir.isLsU, Mir.tupC, Mir.wOf, Mir.frzW, Mir.frzC, Mir.dicM, Mir.nddM, Mir.callV, Mir.callM0, Mir.idxM, Mir.fndS, ptD]) (big_of (by omega)) fun i hi => ⟨_, rfl, rfl, by
      have e := isnum_ok (i := i) (lo := 0) (hi := (ks.length : Int) - 1) (by have := hb i hi; omega)
      simp [Mir.seqM, Mir.retM, Mir.retNM, Mir.drpM, Mir.asgM, Mir.ifM, Mir.toS, Mir.namG, Mir.tupG, Mir.allG, Mir.lsuG, Mir.varM, Mir.conM, Mir.op2M, Mir.op1M, Mir.tstM, Mir.andM, Mir.orM, Mir.notM, Mir.andT, Mir.orT, Mir.notT, Mir.iteM, Mir.chM, Mir.biM, Mir.isM, Mir.callM, Mir.callC, Mir.callN, Mir.argsM, Mir.O.bind, Mir.rd, Mir.rds, Mir.pures, Mir.tupM, Mir.lstM, Mir.nlsM, Mir.slM, Mir.noP, Mir.someP, Mir.slG, Mir.lcM, Mir.nlcM, Mir.wipeE, Mir.seqI, Mir.rng1I, Mir.rng2I, Mir.zpBI, Mir.seqU, Mir.strI, Mir.forM, Mir.setM, Mir.setC, Mir.parsM, Mir.setUs, Mir.meM, Mir.joinG, Mir.splG, Mir.lenG, Mir.intG, Mir.strG, Mir.listG, Mir.tupleG, Mir.isdic, Mir.isE, Mir.ixG, Mir.addG, Mir.subG, Mir.mulG, Mir.mulOk, Mir.fdivG, Mir.modG, Mir.powG, Mir.negG, Mir.ltG, Mir.leG, Mir.gtG, Mir.geG, Mir.isG, Mir.isNotG, Mir.isNon, Mir.env0, Mir.ins1, Mir.run0, Mir.run1, Mir.runN, Mir.frz, Mir.nxtM, Mir.unM, Mir.appM, Mir.isLst, Mir.kmIx, Mir.kmIn, Mir.scpM, Mir.lowU, Mir.lzpM, Mir.lixM, Mir.lixG, Mir.isLsU, Mir.tupC, Mir.wOf, Mir.frzW, Mir.frzC, Mir.dicM, Mir.nddM, Mir.callV, Mir.callM0, Mir.idxM, Mir.fndS, kindsD, natD, e]⟩
  have hlt : ¬ n < (b.length : Int) := by omega
  have ha := all_tr b
  unfold ptD at hC ⊢
  simp only [Mir.allB] at ha
  simp [F_is_stretch_of, m_is_stretch_of, Mir.seqM, Mir.retM, Mir.retNM, Mir.drpM, Mir.asgM, Mir.ifM, Mir.toS, Mir.namG, Mir.tupG, Mir.allG, Mir.lsuG, Mir.varM, Mir.conM, Mir.op2M, Mir.op1M, Mir.tstM, Mir.andM, Mir.orM, Mir.notM, Mir.andT, Mir.orT, Mir.notT, Mir.iteM, Mir.chM, Mir.biM, Mir.isM, Mir.callM, Mir.callC, Mir.callN, Mir.argsM, Mir.O.bind, Mir.rd, Mir.rds, Mir.pures, Mir.tupM, Mir.lstM, Mir.nlsM, Mir.slM, Mir.noP, Mir.someP, Mir.slG, Mir.lcM, Mir.nlcM, Mir.wipeE, Mir.seqI, Mir.rng1I, Mir.rng2I, Mir.zpBI, Mir.seqU, Mir.strI, Mir.forM, Mir.setM, Mir.setC, Mir.parsM, Mir.setUs, Mir.meM, Mir.joinG, Mir.splG, Mir.lenG, Mir.intG, Mir.strG, Mir.listG, Mir.tupleG, Mir.isdic, Mir.isE, Mir.ixG, Mir.addG, Mir.subG, Mir.mulG, Mir.mulOk, Mir.fdivG, Mir.modG, Mir.powG, Mir.negG, Mir.ltG, Mir.leG, Mir.gtG, Mir.geG, Mir.isG, Mir.isNotG, Mir.isNon, Mir.env0, Mir.ins1, Mir.run0, Mir.run1, Mir.runN, Mir.frz, Mir.nxtM, Mir.unM, Mir.appM, Mir.isLst, Mir.kmIx, Mir.kmIn, Mir.scpM, Mir.lowU, Mir.lzpM, Mir.lixM, Mir.lixG, Mir.isLsU, Mir.tupC, Mir.wOf, Mir.frzW, Mir.frzC, Mir.dicM, Mir.nddM, Mir.callV, Mir.callM0, Mir.idxM, Mir.fndS, hlt, hC, Mir.allB, ha]

theorem forL_find {g : MG} {f : MS} {S : Sto} (I : Mir.Env → Prop) (bad : D → Bool) (r : U) : ∀ (ds : List D) (ρ : Mir.Env), I ρ →
    (∀ d ∈ ds, ∀ ρ, I ρ → ∃ ρ1, g (.d d) ρ S = some (ρ1, S) ∧ (bad d = true → f ρ1 S = .rt r S) ∧ (bad d = false → ∃ ρ2, f ρ1 S = .nx ρ2 S ∧ I ρ2)) →
    (ds.any bad = true → forL g f ds ρ S = .rt r S) ∧ (ds.any bad = false → ∃ ρ2, forL g f ds ρ S = .nx ρ2 S ∧ I ρ2)
  | [], ρ, hI, _ => ⟨fun h => (Bool.false_ne_true h).elim, fun _ => ⟨ρ, rfl, hI⟩⟩
  | d :: ds, ρ, hI, h => by
    obtain ⟨ρ1, h1, h2, h3⟩ := h d List.mem_cons_self ρ hI
    cases hb : bad d with
    | true =>
      refine ⟨fun _ => by simp only [forL, h1, h2 hb], fun z => ?_⟩
      rw [List.any_cons, hb] at z
      cases z
    | false =>
      obtain ⟨ρ2, h4, h5⟩ := h3 hb
      obtain ⟨i1, i2⟩ := forL_find I bad r ds ρ2 h5 fun x hx => h x (List.mem_cons_of_mem _ hx)
      rw [List.any_cons, hb, Bool.false_or]
      refine ⟨fun z => by simp only [forL, h1, h4]; exact i1 z, fun z => ?_⟩
      obtain ⟨ρ3, i3, i4⟩ := i2 z
      exact ⟨ρ3, by simp only [forL, h1, h4]; exact i3, i4⟩

/-! ### the two checks of ways, kinds, roads, side by side -/
theorem tup_of {d : D} (h : isE .tuple d = true) : ∃ ds, d = .tup ds := by
  cases d <;> first | exact ⟨_, rfl⟩ | (simp [isE] at h)
theorem ways_of : ∀ {ds : List D} {n L : Nat}, (∀ d ∈ ds, pl n L d = true) → ds.all isW = true → ∃ ws : List Way, ds = ws.map wayD
  | [], _, _, _, _ => ⟨[], rfl⟩
  | d :: ds, n, L, h, ha => by
    rw [List.all_cons, Bool.and_eq_true] at ha
    obtain ⟨w, hw⟩ := isW_of (h d List.mem_cons_self) ha.1
    obtain ⟨ws, hws⟩ := ways_of (fun x hx => h x (List.mem_cons_of_mem _ hx)) ha.2
    exact ⟨w :: ws, by rw [List.map_cons, ← hw, ← hws]⟩
theorem pairs_ways : ∀ ws vs : List Way, pairs (ws.map wayD) (vs.map wayD) = (ws.zip vs).map fun p => .tup [wayD p.1, wayD p.2]
  | [], vs => by simp [pairs]
  | w :: ws, [] => by simp [pairs]
  | w :: ws, v :: vs => by simp [pairs, pairs_ways ws vs]
theorem txs_ways : ∀ ws : List Way, txsOf (ws.map wayD) = some (ws.map wayS)
  | [] => rfl
  | w :: ws => by
    have := txs_ways ws
    show (txsOf (ws.map wayD)).map _ = _
    rw [this]; rfl
theorem strs_cl : ∀ {ts : List Str}, (∀ t ∈ ts, PyData.strOk t = true) → cl 1 (.lst (ts.map D.str)) = true := by
  intro ts h
  show cls 0 (ts.map D.str) = true
  induction ts with
  | nil => rfl
  | cons t ts ih =>
    rw [List.map_cons, cls, Bool.and_eq_true]
    exact ⟨h t List.mem_cons_self, ih fun x hx => h x (List.mem_cons_of_mem _ hx)⟩
theorem map_str_inj : ∀ {a b : List Str}, a.map D.str = b.map D.str → a = b
  | [], [], _ => rfl
  | [], _ :: _, h => by cases h
  | _ :: _, [], h => by cases h
  | x :: a, y :: b, h => by
    simp only [List.map_cons, List.cons.injEq, D.str.injEq] at h
    rw [h.1, map_str_inj h.2]
theorem gath_sub : ∀ (ts l : List Str) (x : Str), x ∈ Tx.gath l ts → x ∈ l ∨ x ∈ ts
  | [], l, x, h => .inl h
  | k :: ts, l, x, h => by
    rcases gath_sub ts (Tx.put l k) x h with z | z
    · unfold Tx.put at z
      split at z
      · exact .inl z
      · rcases List.mem_cons.mp z with z | z
        · exact .inr (by rw [z]; exact List.mem_cons_self)
        · exact .inl z
    · exact .inr (List.mem_cons_of_mem _ z)
theorem ne_srt (ws : List Way) : neG (.lst (ws.map wayD)) (.lst ((srtU (ws.map wayS)).map D.str)) = some (.bl (!chW ws)) := by
  have e : ws.map wayD = (ws.map wayS).map D.str := by rw [List.map_map]; rfl
  have ok : ∀ w : Way, PyData.strOk (wayS w) = true := by intro w; cases w <;> decide +kernel
  have c1 : cl 1 (.lst ((ws.map wayS).map D.str)) = true := strs_cl fun t ht => by
    obtain ⟨w, _, rfl⟩ := List.mem_map.mp ht
    exact ok w
  have c2 : cl 1 (.lst ((srtU (ws.map wayS)).map D.str)) = true := strs_cl fun t ht => by
    have h1 := (srtU_perm (ws.map wayS)).mem_iff.mp ht
    rcases gath_sub _ _ _ h1 with z | z
    · cases z
    · obtain ⟨w, _, rfl⟩ := List.mem_map.mp z
      exact ok w
  rw [e, neG_cl (n := 1) (m := 1) c1 c2]
  congr 2
  rw [Bool.eq_iff_iff]
  simp only [Bool.not_eq_true', Bool.eq_false_iff, ne_eq, cl_eq 1 1 _ _ c1 c2, D.lst.injEq]
  constructor
  · intro h z
    exact h (by rw [← (srt_iff ws).mpr z])
  · intro h z
    exact h ((srt_iff ws).mp (map_str_inj z))
theorem ways_both {n L : Nat} {d : D} (hp : pl n L d = true) (hn : n ≤ 64) (hL : L ≤ 60) :
    ∃ b : Bool, F_are_ways [d] = .ok (.bl b) ∧ ∀ x0 x1 : Option U, B__law_are_kinds_1 [x0, x1, some (.d d), none] [] = if b = true then .nx [x0, x1, some (.d d), none] [] else .rt (.d (.bl false)) [] := by
  have hdi := isdic_pl hp
  cases ht : isE .tuple d with
  | false =>
    refine ⟨false, ?_, fun x0 x1 => ?_⟩
    · simp [F_are_ways, m_are_ways, Mir.seqM, Mir.retM, Mir.retNM, Mir.drpM, Mir.asgM, Mir.ifM, Mir.toS, Mir.namG, Mir.tupG, Mir.allG, Mir.lsuG, Mir.varM, Mir.conM, Mir.op2M, Mir.op1M, Mir.tstM, Mir.andM, Mir.orM, Mir.notM, Mir.andT, Mir.orT, Mir.notT, Mir.iteM, Mir.chM, Mir.biM, Mir.isM, Mir.callM, Mir.callC, Mir.callN, Mir.argsM, Mir.O.bind, Mir.rd, Mir.rds, Mir.pures, Mir.tupM, Mir.lstM, Mir.nlsM, Mir.slM, Mir.noP, Mir.someP, Mir.slG, Mir.lcM, Mir.nlcM, Mir.wipeE, Mir.seqI, Mir.rng1I, Mir.rng2I, Mir.zpBI, Mir.seqU, Mir.strI, Mir.forM, Mir.setM, Mir.setC, Mir.parsM, Mir.setUs, Mir.meM, Mir.joinG, Mir.splG, Mir.lenG, Mir.intG, Mir.strG, Mir.listG, Mir.tupleG, Mir.ixG, Mir.addG, Mir.subG, Mir.mulG, Mir.mulOk, Mir.fdivG, Mir.modG, Mir.powG, Mir.negG, Mir.ltG, Mir.leG, Mir.gtG, Mir.geG, Mir.isG, Mir.isNotG, Mir.isNon, Mir.env0, Mir.ins1, Mir.run0, Mir.run1, Mir.runN, Mir.frz, Mir.nxtM, Mir.unM, Mir.appM, Mir.isLst, Mir.kmIx, Mir.kmIn, Mir.scpM, Mir.lowU, Mir.lzpM, Mir.lixM, Mir.lixG, Mir.isLsU, Mir.tupC, Mir.wOf, Mir.frzW, Mir.frzC, Mir.dicM, Mir.nddM, Mir.callV, Mir.callM0, Mir.idxM, Mir.fndS, hdi, ht]
    · simp [B__law_are_kinds_1, Mir.seqM, Mir.retM, Mir.retNM, Mir.drpM, Mir.asgM, Mir.ifM, Mir.toS, Mir.namG, Mir.tupG, Mir.allG, Mir.lsuG, Mir.varM, Mir.conM, Mir.op2M, Mir.op1M, Mir.tstM, Mir.andM, Mir.orM, Mir.notM, Mir.andT, Mir.orT, Mir.notT, Mir.iteM, Mir.chM, Mir.biM, Mir.isM, Mir.callM, Mir.callC, Mir.callN, Mir.argsM, Mir.O.bind, Mir.rd, Mir.rds, Mir.pures, Mir.tupM, Mir.lstM, Mir.nlsM, Mir.slM, Mir.noP, Mir.someP, Mir.slG, Mir.lcM, Mir.nlcM, Mir.wipeE, Mir.seqI, Mir.rng1I, Mir.rng2I, Mir.zpBI, Mir.seqU, Mir.strI, Mir.forM, Mir.setM, Mir.setC, Mir.parsM, Mir.setUs, Mir.meM, Mir.joinG, Mir.splG, Mir.lenG, Mir.intG, Mir.strG, Mir.listG, Mir.tupleG, Mir.ixG, Mir.addG, Mir.subG, Mir.mulG, Mir.mulOk, Mir.fdivG, Mir.modG, Mir.powG, Mir.negG, Mir.ltG, Mir.leG, Mir.gtG, Mir.geG, Mir.isG, Mir.isNotG, Mir.isNon, Mir.env0, Mir.ins1, Mir.run0, Mir.run1, Mir.runN, Mir.frz, Mir.nxtM, Mir.unM, Mir.appM, Mir.isLst, Mir.kmIx, Mir.kmIn, Mir.scpM, Mir.lowU, Mir.lzpM, Mir.lixM, Mir.lixG, Mir.isLsU, Mir.tupC, Mir.wOf, Mir.frzW, Mir.frzC, Mir.dicM, Mir.nddM, Mir.callV, Mir.callM0, Mir.idxM, Mir.fndS, hdi, ht]
  | true =>
    obtain ⟨ds, rfl⟩ := tup_of ht
    obtain ⟨n', rfl⟩ : ∃ n', n = n' + 1 := by
      cases n with
      | zero => simp [pl] at hp
      | succ n => exact ⟨n, rfl⟩
    obtain ⟨hlen, hall⟩ := pl_tup.mp hp
    have hbig : ds.length ≤ big := big_of (by omega)
    have hC1 : C_are_ways_1 [some (.d (.tup ds)), none, none] [] = .ok (.d (.lst (ds.map fun d => D.bl (isW d)))) [] :=
      lcM_rows (fun d => D.bl (isW d)) (by simp [Mir.seqM, Mir.retM, Mir.retNM, Mir.drpM, Mir.asgM, Mir.ifM, Mir.toS, Mir.namG, Mir.tupG, Mir.allG, Mir.lsuG, Mir.varM, Mir.conM, Mir.op2M, Mir.op1M, Mir.tstM, Mir.andM, Mir.orM, Mir.notM, Mir.andT, Mir.orT, Mir.notT, Mir.iteM, Mir.chM, Mir.biM, Mir.isM, Mir.callM, Mir.callC, Mir.callN, Mir.argsM, Mir.O.bind, Mir.rd, Mir.rds, Mir.pures, Mir.tupM, Mir.lstM, Mir.nlsM, Mir.slM, Mir.noP, Mir.someP, Mir.slG, Mir.lcM, Mir.nlcM, Mir.wipeE, Mir.seqI, Mir.rng1I, Mir.rng2I, Mir.zpBI, Mir.seqU, Mir.strI, Mir.forM, Mir.setM, Mir.setC, Mir.parsM, Mir.setUs, Mir.meM, Mir.joinG, Mir.splG, Mir.lenG, Mir.intG, Mir.strG, Mir.listG, Mir.tupleG, Mir.isdic, Mir.isE, Mir.ixG, Mir.addG, Mir.subG, Mir.mulG, Mir.mulOk, Mir.fdivG, Mir.modG, Mir.powG, Mir.negG, Mir.ltG, Mir.leG, Mir.gtG, Mir.geG, Mir.isG, Mir.isNotG, Mir.isNon, Mir.env0, Mir.ins1, Mir.run0, Mir.run1, Mir.runN, Mir.frz, Mir.nxtM, Mir.unM, Mir.appM, Mir.isLst, Mir.kmIx, Mir.kmIn, Mir.scpM, Mir.lowU, Mir.lzpM, Mir.lixM, Mir.lixG, Mir.isLsU, Mir.tupC, Mir.wOf, Mir.frzW, Mir.frzC, Mir.dicM, Mir.nddM, Mir.callV, Mir.callM0, Mir.idxM, Mir.fndS]) hbig fun d hd => ⟨_, rfl, rfl, by
        have h1 := isdic_pl (hall d hd)
        have h2 := (in_ways (hall d hd) (by omega)).1
        have hK : K_WAYS = .tup [wayD .l, wayD .r, wayD .s] := rfl
        cases hs : isE .str d with
        | true => simp [Mir.seqM, Mir.retM, Mir.retNM, Mir.drpM, Mir.asgM, Mir.ifM, Mir.toS, Mir.namG, Mir.tupG, Mir.allG, Mir.lsuG, Mir.varM, Mir.conM, Mir.op2M, Mir.op1M, Mir.tstM, Mir.andM, Mir.orM, Mir.notM, Mir.andT, Mir.orT, Mir.notT, Mir.iteM, Mir.chM, Mir.biM, Mir.isM, Mir.callM, Mir.callC, Mir.callN, Mir.argsM, Mir.O.bind, Mir.rd, Mir.rds, Mir.pures, Mir.tupM, Mir.lstM, Mir.nlsM, Mir.slM, Mir.noP, Mir.someP, Mir.slG, Mir.lcM, Mir.nlcM, Mir.wipeE, Mir.seqI, Mir.rng1I, Mir.rng2I, Mir.zpBI, Mir.seqU, Mir.strI, Mir.forM, Mir.setM, Mir.setC, Mir.parsM, Mir.setUs, Mir.meM, Mir.joinG, Mir.splG, Mir.lenG, Mir.intG, Mir.strG, Mir.listG, Mir.tupleG, Mir.ixG, Mir.addG, Mir.subG, Mir.mulG, Mir.mulOk, Mir.fdivG, Mir.modG, Mir.powG, Mir.negG, Mir.ltG, Mir.leG, Mir.gtG, Mir.geG, Mir.isG, Mir.isNotG, Mir.isNon, Mir.env0, Mir.ins1, Mir.run0, Mir.run1, Mir.runN, Mir.frz, Mir.nxtM, Mir.unM, Mir.appM, Mir.isLst, Mir.kmIx, Mir.kmIn, Mir.scpM, Mir.lowU, Mir.lzpM, Mir.lixM, Mir.lixG, Mir.isLsU, Mir.tupC, Mir.wOf, Mir.frzW, Mir.frzC, Mir.dicM, Mir.nddM, Mir.callV, Mir.callM0, Mir.idxM, Mir.fndS, h1, hs, hK, h2]
        | false => simp [Mir.seqM, Mir.retM, Mir.retNM, Mir.drpM, Mir.asgM, Mir.ifM, Mir.toS, Mir.namG, Mir.tupG, Mir.allG, Mir.lsuG, Mir.varM, Mir.conM, Mir.op2M, Mir.op1M, Mir.tstM, Mir.andM, Mir.orM, Mir.notM, Mir.andT, Mir.orT, Mir.notT, Mir.iteM, Mir.chM, Mir.biM, Mir.isM, Mir.callM, Mir.callC, Mir.callN, Mir.argsM, Mir.O.bind, Mir.rd, Mir.rds, Mir.pures, Mir.tupM, Mir.lstM, Mir.nlsM, Mir.slM, Mir.noP, Mir.someP, Mir.slG, Mir.lcM, Mir.nlcM, Mir.wipeE, Mir.seqI, Mir.rng1I, Mir.rng2I, Mir.zpBI, Mir.seqU, Mir.strI, Mir.forM, Mir.setM, Mir.setC, Mir.parsM, Mir.setUs, Mir.meM, Mir.joinG, Mir.splG, Mir.lenG, Mir.intG, Mir.strG, Mir.listG, Mir.tupleG, Mir.ixG, Mir.addG, Mir.subG, Mir.mulG, Mir.mulOk, Mir.fdivG, Mir.modG, Mir.powG, Mir.negG, Mir.ltG, Mir.leG, Mir.gtG, Mir.geG, Mir.isG, Mir.isNotG, Mir.isNon, Mir.env0, Mir.ins1, Mir.run0, Mir.run1, Mir.runN, Mir.frz, Mir.nxtM, Mir.unM, Mir.appM, Mir.isLst, Mir.kmIx, Mir.kmIn, Mir.scpM, Mir.lowU, Mir.lzpM, Mir.lixM, Mir.lixG, Mir.isLsU, Mir.tupC, Mir.wOf, Mir.frzW, Mir.frzC, Mir.dicM, Mir.nddM, Mir.callV, Mir.callM0, Mir.idxM, Mir.fndS, h1, hs, isW_str hs]⟩
    have hCL : ∀ x0 x1 : Option U, C__law_are_kinds_1 [x0, x1, some (.d (.tup ds)), none] [] = .ok (.d (.lst ((ds.filter fun d => !isW d).map fun d => d))) [] := fun x0 x1 =>
      lcM_fil (fun d => !isW d) (fun d => d) (by simp [Mir.seqM, Mir.retM, Mir.retNM, Mir.drpM, Mir.asgM, Mir.ifM, Mir.toS, Mir.namG, Mir.tupG, Mir.allG, Mir.lsuG, Mir.varM, Mir.conM, Mir.op2M, Mir.op1M, Mir.tstM, Mir.andM, Mir.orM, Mir.notM, Mir.andT, Mir.orT, Mir.notT, Mir.iteM, Mir.chM, Mir.biM, Mir.isM, Mir.callM, Mir.callC, Mir.callN, Mir.argsM, Mir.O.bind, Mir.rd, Mir.rds, Mir.pures, Mir.tupM, Mir.lstM, Mir.nlsM, Mir.slM, Mir.noP, Mir.someP, Mir.slG, Mir.lcM, Mir.nlcM, Mir.wipeE, Mir.seqI, Mir.rng1I, Mir.rng2I, Mir.zpBI, Mir.seqU, Mir.strI, Mir.forM, Mir.setM, Mir.setC, Mir.parsM, Mir.setUs, Mir.meM, Mir.joinG, Mir.splG, Mir.lenG, Mir.intG, Mir.strG, Mir.listG, Mir.tupleG, Mir.isdic, Mir.isE, Mir.ixG, Mir.addG, Mir.subG, Mir.mulG, Mir.mulOk, Mir.fdivG, Mir.modG, Mir.powG, Mir.negG, Mir.ltG, Mir.leG, Mir.gtG, Mir.geG, Mir.isG, Mir.isNotG, Mir.isNon, Mir.env0, Mir.ins1, Mir.run0, Mir.run1, Mir.runN, Mir.frz, Mir.nxtM, Mir.unM, Mir.appM, Mir.isLst, Mir.kmIx, Mir.kmIn, Mir.scpM, Mir.lowU, Mir.lzpM, Mir.lixM, Mir.lixG, Mir.isLsU, Mir.tupC, Mir.wOf, Mir.frzW, Mir.frzC, Mir.dicM, Mir.nddM, Mir.callV, Mir.callM0, Mir.idxM, Mir.fndS]) hbig fun d hd => ⟨_, rfl, by
        have h2 := (in_ways (hall d hd) (by omega)).2
        have e : (lstM [(conM (.str "left")), (conM (.str "right")), (conM (.str "stay"))]) = lstM [conM (wayD .l), conM (wayD .r), conM (wayD .s)] := rfl
        rw [e]
        simp [Mir.seqM, Mir.retM, Mir.retNM, Mir.drpM, Mir.asgM, Mir.ifM, Mir.toS, Mir.namG, Mir.tupG, Mir.allG, Mir.lsuG, Mir.varM, Mir.conM, Mir.op2M, Mir.op1M, Mir.tstM, Mir.andM, Mir.orM, Mir.notM, Mir.andT, Mir.orT, Mir.notT, Mir.iteM, Mir.chM, Mir.biM, Mir.isM, Mir.callM, Mir.callC, Mir.callN, Mir.argsM, Mir.O.bind, Mir.rd, Mir.rds, Mir.pures, Mir.tupM, Mir.lstM, Mir.nlsM, Mir.slM, Mir.noP, Mir.someP, Mir.slG, Mir.lcM, Mir.nlcM, Mir.wipeE, Mir.seqI, Mir.rng1I, Mir.rng2I, Mir.zpBI, Mir.seqU, Mir.strI, Mir.forM, Mir.setM, Mir.setC, Mir.parsM, Mir.setUs, Mir.meM, Mir.joinG, Mir.splG, Mir.lenG, Mir.intG, Mir.strG, Mir.listG, Mir.tupleG, Mir.isdic, Mir.isE, Mir.ixG, Mir.addG, Mir.subG, Mir.mulG, Mir.mulOk, Mir.fdivG, Mir.modG, Mir.powG, Mir.negG, Mir.ltG, Mir.leG, Mir.gtG, Mir.geG, Mir.isG, Mir.isNotG, Mir.isNon, Mir.env0, Mir.ins1, Mir.run0, Mir.run1, Mir.runN, Mir.frz, Mir.nxtM, Mir.unM, Mir.appM, Mir.isLst, Mir.kmIx, Mir.kmIn, Mir.scpM, Mir.lowU, Mir.lzpM, Mir.lixM, Mir.lixG, Mir.isLsU, Mir.tupC, Mir.wOf, Mir.frzW, Mir.frzC, Mir.dicM, Mir.nddM, Mir.callV, Mir.callM0, Mir.idxM, Mir.fndS, h2], fun _ => by simp [Mir.seqM, Mir.retM, Mir.retNM, Mir.drpM, Mir.asgM, Mir.ifM, Mir.toS, Mir.namG, Mir.tupG, Mir.allG, Mir.lsuG, Mir.varM, Mir.conM, Mir.op2M, Mir.op1M, Mir.tstM, Mir.andM, Mir.orM, Mir.notM, Mir.andT, Mir.orT, Mir.notT, Mir.iteM, Mir.chM, Mir.biM, Mir.isM, Mir.callM, Mir.callC, Mir.callN, Mir.argsM, Mir.O.bind, Mir.rd, Mir.rds, Mir.pures, Mir.tupM, Mir.lstM, Mir.nlsM, Mir.slM, Mir.noP, Mir.someP, Mir.slG, Mir.lcM, Mir.nlcM, Mir.wipeE, Mir.seqI, Mir.rng1I, Mir.rng2I, Mir.zpBI, Mir.seqU, Mir.strI, Mir.forM, Mir.setM, Mir.setC, Mir.parsM, Mir.setUs, Mir.meM, Mir.joinG, Mir.splG, Mir.lenG, Mir.intG, Mir.strG, Mir.listG, Mir.tupleG, Mir.isdic, Mir.isE, Mir.ixG, Mir.addG, Mir.subG, Mir.mulG, Mir.mulOk, Mir.fdivG, Mir.modG, Mir.powG, Mir.negG, Mir.ltG, Mir.leG, Mir.gtG, Mir.geG, Mir.isG, Mir.isNotG, Mir.isNon, Mir.env0, Mir.ins1, Mir.run0, Mir.run1, Mir.runN, Mir.frz, Mir.nxtM, Mir.unM, Mir.appM, Mir.isLst, Mir.kmIx, Mir.kmIn, Mir.scpM, Mir.lowU, Mir.lzpM, Mir.lixM, Mir.lixG, Mir.isLsU, Mir.tupC, Mir.wOf, Mir.frzW, Mir.frzC, Mir.dicM, Mir.nddM, Mir.callV, Mir.callM0, Mir.idxM, Mir.fndS]⟩
    simp only [List.map_id'] at hCL
    have ha := all_bls (ds.map isW)
    rw [List.map_map] at ha
    have ha' : Mir.allB [.lst (ds.map fun d => D.bl (isW d))] = some (.bl (ds.all isW)) := by
      have e : (ds.map isW).all id = ds.all isW := by simp [List.all_map, Function.comp_def]
      rw [e] at ha
      exact ha
    have tt : isE .tuple (.tup ds) = true := rfl
    have td : isdic (.tup ds) = false := rfl
    have pf : pl (n' + 1) L (.lst (ds.filter fun d => !isW d)) = true := pl_lst.mpr ⟨Nat.le_trans (List.length_filter_le _ _) hlen, fun d hd => hall d (List.mem_filter.mp hd).1⟩
    have hne := ne_nilL pf hn
    cases hw : ds.all isW with
    | false =>
      rw [hw] at ha'
      have he : (ds.filter fun d => !isW d).isEmpty = false := by
        cases hf : (ds.filter fun d => !isW d) with
        | cons _ _ => rfl
        | nil =>
          have : ds.all isW = true := List.all_eq_true.mpr fun d hd => by
            have := List.filter_eq_nil_iff.mp hf d hd
            simpa using this
          rw [hw] at this; cases this
      rw [he] at hne
      refine ⟨false, ?_, fun x0 x1 => ?_⟩
      · simp [F_are_ways, m_are_ways, Mir.seqM, Mir.retM, Mir.retNM, Mir.drpM, Mir.asgM, Mir.ifM, Mir.toS, Mir.namG, Mir.tupG, Mir.allG, Mir.lsuG, Mir.varM, Mir.conM, Mir.op2M, Mir.op1M, Mir.tstM, Mir.andM, Mir.orM, Mir.notM, Mir.andT, Mir.orT, Mir.notT, Mir.iteM, Mir.chM, Mir.biM, Mir.isM, Mir.callM, Mir.callC, Mir.callN, Mir.argsM, Mir.O.bind, Mir.rd, Mir.rds, Mir.pures, Mir.tupM, Mir.lstM, Mir.nlsM, Mir.slM, Mir.noP, Mir.someP, Mir.slG, Mir.lcM, Mir.nlcM, Mir.wipeE, Mir.seqI, Mir.rng1I, Mir.rng2I, Mir.zpBI, Mir.seqU, Mir.strI, Mir.forM, Mir.setM, Mir.setC, Mir.parsM, Mir.setUs, Mir.meM, Mir.joinG, Mir.splG, Mir.lenG, Mir.intG, Mir.strG, Mir.listG, Mir.tupleG, Mir.ixG, Mir.addG, Mir.subG, Mir.mulG, Mir.mulOk, Mir.fdivG, Mir.modG, Mir.powG, Mir.negG, Mir.ltG, Mir.leG, Mir.gtG, Mir.geG, Mir.isG, Mir.isNotG, Mir.isNon, Mir.env0, Mir.ins1, Mir.run0, Mir.run1, Mir.runN, Mir.frz, Mir.nxtM, Mir.unM, Mir.appM, Mir.isLst, Mir.kmIx, Mir.kmIn, Mir.scpM, Mir.lowU, Mir.lzpM, Mir.lixM, Mir.lixG, Mir.isLsU, Mir.tupC, Mir.wOf, Mir.frzW, Mir.frzC, Mir.dicM, Mir.nddM, Mir.callV, Mir.callM0, Mir.idxM, Mir.fndS, tt, td, hC1, ha', -List.map_map]
      · simp [B__law_are_kinds_1, Mir.seqM, Mir.retM, Mir.retNM, Mir.drpM, Mir.asgM, Mir.ifM, Mir.toS, Mir.namG, Mir.tupG, Mir.allG, Mir.lsuG, Mir.varM, Mir.conM, Mir.op2M, Mir.op1M, Mir.tstM, Mir.andM, Mir.orM, Mir.notM, Mir.andT, Mir.orT, Mir.notT, Mir.iteM, Mir.chM, Mir.biM, Mir.isM, Mir.callM, Mir.callC, Mir.callN, Mir.argsM, Mir.O.bind, Mir.rd, Mir.rds, Mir.pures, Mir.tupM, Mir.lstM, Mir.nlsM, Mir.slM, Mir.noP, Mir.someP, Mir.slG, Mir.lcM, Mir.nlcM, Mir.wipeE, Mir.seqI, Mir.rng1I, Mir.rng2I, Mir.zpBI, Mir.seqU, Mir.strI, Mir.forM, Mir.setM, Mir.setC, Mir.parsM, Mir.setUs, Mir.meM, Mir.joinG, Mir.splG, Mir.lenG, Mir.intG, Mir.strG, Mir.listG, Mir.tupleG, Mir.ixG, Mir.addG, Mir.subG, Mir.mulG, Mir.mulOk, Mir.fdivG, Mir.modG, Mir.powG, Mir.negG, Mir.ltG, Mir.leG, Mir.gtG, Mir.geG, Mir.isG, Mir.isNotG, Mir.isNon, Mir.env0, Mir.ins1, Mir.run0, Mir.run1, Mir.runN, Mir.frz, Mir.nxtM, Mir.unM, Mir.appM, Mir.isLst, Mir.kmIx, Mir.kmIn, Mir.scpM, Mir.lowU, Mir.lzpM, Mir.lixM, Mir.lixG, Mir.isLsU, Mir.tupC, Mir.wOf, Mir.frzW, Mir.frzC, Mir.dicM, Mir.nddM, Mir.callV, Mir.callM0, Mir.idxM, Mir.fndS, tt, td, hCL x0 x1, hne]
    | true =>
      rw [hw] at ha'
      obtain ⟨ws, rfl⟩ := ways_of hall hw
      have he : ((ws.map wayD).filter fun d => !isW d) = [] := List.filter_eq_nil_iff.mpr fun d hd => by
        have := List.all_eq_true.mp hw d hd
        simp [this]
      have hne0 : neG (.lst []) (.lst []) = some (.bl false) := rfl
      have hcut : slG (.tup (ws.map wayD)) (some 1) none = some (.tup ((ws.drop 1).map wayD)) := by
        cases ws with
        | nil => rfl
        | cons w ws =>
          simp only [slG, cutL, HT.sIx, List.length_map, List.length_cons]
          rw [if_neg (by omega)]
          have h1 : min ((1 : Int).toNat) (ws.length + 1) = 1 := by
            have : (1 : Int).toNat = 1 := rfl
            omega
          rw [h1]
          simp
          exact List.take_of_length_le (by simp)
      have hC2 : C_are_ways_2 [some (.d (.tup (ws.map wayD))), none, none] [] = .ok (.d (.lst ((ws.zip (ws.drop 1)).map fun p => D.bl (ltW p.1 p.2)))) [] :=
        lcM_map (fun p : Way × Way => .tup [wayD p.1, wayD p.2]) (fun p => D.bl (ltW p.1 p.2)) (by simp [Mir.seqM, Mir.retM, Mir.retNM, Mir.drpM, Mir.asgM, Mir.ifM, Mir.toS, Mir.namG, Mir.tupG, Mir.allG, Mir.lsuG, Mir.varM, Mir.conM, Mir.op2M, Mir.op1M, Mir.tstM, Mir.andM, Mir.orM, Mir.notM, Mir.andT, Mir.orT, Mir.notT, Mir.iteM, Mir.chM, Mir.biM, Mir.isM, Mir.callM, Mir.callC, Mir.callN, Mir.argsM, Mir.O.bind, Mir.rd, Mir.rds, Mir.pures, Mir.tupM, Mir.lstM, Mir.nlsM, Mir.slM, Mir.noP, Mir.someP, Mir.lcM, Mir.nlcM, Mir.wipeE, Mir.seqI, Mir.rng1I, Mir.rng2I, Mir.zpBI, Mir.seqU, Mir.strI, Mir.forM, Mir.setM, Mir.setC, Mir.parsM, Mir.setUs, Mir.meM, Mir.joinG, Mir.splG, Mir.lenG, Mir.intG, Mir.strG, Mir.listG, Mir.tupleG, Mir.isdic, Mir.isE, Mir.ixG, Mir.addG, Mir.subG, Mir.mulG, Mir.mulOk, Mir.fdivG, Mir.modG, Mir.powG, Mir.negG, Mir.ltG, Mir.leG, Mir.gtG, Mir.geG, Mir.isG, Mir.isNotG, Mir.isNon, Mir.env0, Mir.ins1, Mir.run0, Mir.run1, Mir.runN, Mir.frz, Mir.nxtM, Mir.unM, Mir.appM, Mir.isLst, Mir.kmIx, Mir.kmIn, Mir.scpM, Mir.lowU, Mir.lzpM, Mir.lixM, Mir.lixG, Mir.isLsU, Mir.tupC, Mir.wOf, Mir.frzW, Mir.frzC, Mir.dicM, Mir.nddM, Mir.callV, Mir.callM0, Mir.idxM, Mir.fndS, hcut, Mir.zpBI, Mir.seqU]; rw [← List.map_tail, pairs_ways]) (by rw [List.length_zip]; exact Nat.le_trans (Nat.min_le_left _ _) (by simpa using hbig)) fun p hp => ⟨_, rfl, rfl, by
          have e : ltG (wayD p.1) (wayD p.2) = some (.bl (ltW p.1 p.2)) := rfl
          simp [Mir.seqM, Mir.retM, Mir.retNM, Mir.drpM, Mir.asgM, Mir.ifM, Mir.toS, Mir.namG, Mir.tupG, Mir.allG, Mir.lsuG, Mir.varM, Mir.conM, Mir.op2M, Mir.op1M, Mir.tstM, Mir.andM, Mir.orM, Mir.notM, Mir.andT, Mir.orT, Mir.notT, Mir.iteM, Mir.chM, Mir.biM, Mir.isM, Mir.callM, Mir.callC, Mir.callN, Mir.argsM, Mir.O.bind, Mir.rd, Mir.rds, Mir.pures, Mir.tupM, Mir.lstM, Mir.nlsM, Mir.slM, Mir.noP, Mir.someP, Mir.slG, Mir.lcM, Mir.nlcM, Mir.wipeE, Mir.seqI, Mir.rng1I, Mir.rng2I, Mir.zpBI, Mir.seqU, Mir.strI, Mir.forM, Mir.setM, Mir.setC, Mir.parsM, Mir.setUs, Mir.meM, Mir.joinG, Mir.splG, Mir.lenG, Mir.intG, Mir.strG, Mir.listG, Mir.tupleG, Mir.isdic, Mir.isE, Mir.ixG, Mir.addG, Mir.subG, Mir.mulG, Mir.mulOk, Mir.fdivG, Mir.modG, Mir.powG, Mir.negG, Mir.leG, Mir.gtG, Mir.geG, Mir.isG, Mir.isNotG, Mir.isNon, Mir.env0, Mir.ins1, Mir.run0, Mir.run1, Mir.runN, Mir.frz, Mir.nxtM, Mir.unM, Mir.appM, Mir.isLst, Mir.kmIx, Mir.kmIn, Mir.scpM, Mir.lowU, Mir.lzpM, Mir.lixM, Mir.lixG, Mir.isLsU, Mir.tupC, Mir.wOf, Mir.frzW, Mir.frzC, Mir.dicM, Mir.nddM, Mir.callV, Mir.callM0, Mir.idxM, Mir.fndS, e]⟩
      have ha2 : Mir.allB [.lst ((ws.zip (ws.drop 1)).map fun p => D.bl (ltW p.1 p.2))] = some (.bl (chW ws)) := by
        have := all_bls ((ws.zip (ws.drop 1)).map fun p => ltW p.1 p.2)
        rw [List.map_map] at this
        have e : ((ws.zip (ws.drop 1)).map fun p => ltW p.1 p.2).all id = chW ws := by simp [chW, List.all_map, Function.comp_def]
        rw [e] at this
        exact this
      have hs := ne_srt ws
      have hso : sosG (.tup (ws.map wayD)) = some (.lst ((srtU (ws.map wayS)).map D.str)) := by
        have : ws.length ≤ 60 := by rw [List.length_map] at hlen; omega
        simp [sosG, txs_ways, this]
      refine ⟨chW ws, ?_, fun x0 x1 => ?_⟩
      · simp [F_are_ways, m_are_ways, Mir.seqM, Mir.retM, Mir.retNM, Mir.drpM, Mir.asgM, Mir.ifM, Mir.toS, Mir.namG, Mir.tupG, Mir.allG, Mir.lsuG, Mir.varM, Mir.conM, Mir.op2M, Mir.op1M, Mir.tstM, Mir.andM, Mir.orM, Mir.notM, Mir.andT, Mir.orT, Mir.notT, Mir.iteM, Mir.chM, Mir.biM, Mir.isM, Mir.callM, Mir.callC, Mir.callN, Mir.argsM, Mir.O.bind, Mir.rd, Mir.rds, Mir.pures, Mir.tupM, Mir.lstM, Mir.nlsM, Mir.slM, Mir.noP, Mir.someP, Mir.slG, Mir.lcM, Mir.nlcM, Mir.wipeE, Mir.seqI, Mir.rng1I, Mir.rng2I, Mir.zpBI, Mir.seqU, Mir.strI, Mir.forM, Mir.setM, Mir.setC, Mir.parsM, Mir.setUs, Mir.meM, Mir.joinG, Mir.splG, Mir.lenG, Mir.intG, Mir.strG, Mir.listG, Mir.tupleG, Mir.ixG, Mir.addG, Mir.subG, Mir.mulG, Mir.mulOk, Mir.fdivG, Mir.modG, Mir.powG, Mir.negG, Mir.ltG, Mir.leG, Mir.gtG, Mir.geG, Mir.isG, Mir.isNotG, Mir.isNon, Mir.env0, Mir.ins1, Mir.run0, Mir.run1, Mir.runN, Mir.frz, Mir.nxtM, Mir.unM, Mir.appM, Mir.isLst, Mir.kmIx, Mir.kmIn, Mir.scpM, Mir.lowU, Mir.lzpM, Mir.lixM, Mir.lixG, Mir.isLsU, Mir.tupC, Mir.wOf, Mir.frzW, Mir.frzC, Mir.dicM, Mir.nddM, Mir.callV, Mir.callM0, Mir.idxM, Mir.fndS, tt, td, hC1, ha', hC2, ha2, -List.map_map, -List.drop_one]
      · have hCL' := hCL x0 x1
        rw [he] at hCL'
        cases hc : chW ws <;> (rw [hc] at hs; simp [B__law_are_kinds_1, Mir.seqM, Mir.retM, Mir.retNM, Mir.drpM, Mir.asgM, Mir.ifM, Mir.toS, Mir.namG, Mir.tupG, Mir.allG, Mir.lsuG, Mir.varM, Mir.conM, Mir.op2M, Mir.op1M, Mir.tstM, Mir.andM, Mir.orM, Mir.notM, Mir.andT, Mir.orT, Mir.notT, Mir.iteM, Mir.chM, Mir.biM, Mir.isM, Mir.callM, Mir.callC, Mir.callN, Mir.argsM, Mir.O.bind, Mir.rd, Mir.rds, Mir.pures, Mir.tupM, Mir.lstM, Mir.nlsM, Mir.slM, Mir.noP, Mir.someP, Mir.slG, Mir.lcM, Mir.nlcM, Mir.wipeE, Mir.seqI, Mir.rng1I, Mir.rng2I, Mir.zpBI, Mir.seqU, Mir.strI, Mir.forM, Mir.setM, Mir.setC, Mir.parsM, Mir.setUs, Mir.meM, Mir.joinG, Mir.splG, Mir.lenG, Mir.intG, Mir.strG, Mir.listG, Mir.tupleG, Mir.ixG, Mir.addG, Mir.subG, Mir.mulG, Mir.mulOk, Mir.fdivG, Mir.modG, Mir.powG, Mir.negG, Mir.ltG, Mir.leG, Mir.gtG, Mir.geG, Mir.isG, Mir.isNotG, Mir.isNon, Mir.env0, Mir.ins1, Mir.run0, Mir.run1, Mir.runN, Mir.frz, Mir.nxtM, Mir.unM, Mir.appM, Mir.isLst, Mir.kmIx, Mir.kmIn, Mir.scpM, Mir.lowU, Mir.lzpM, Mir.lixM, Mir.lixG, Mir.isLsU, Mir.tupC, Mir.wOf, Mir.frzW, Mir.frzC, Mir.dicM, Mir.nddM, Mir.callV, Mir.callM0, Mir.idxM, Mir.fndS, tt, td, hCL', hne0, Mir.sosM, hso, hs, -List.map_map])

/-! ### kinds -/
open Classical in
theorem pick_all {α : Type} {Q : α → Bool → Prop} {ds : List α} (h : ∀ d ∈ ds, ∃ b, Q d b) : ∃ f : α → Bool, ∀ d ∈ ds, Q d (f d) :=
  ⟨fun d => if z : ∃ b, Q d b then Classical.choose z else false, fun d hd => by
    have z := h d hd
    simp only [dif_pos z]
    exact Classical.choose_spec z⟩
theorem any_not_all {α : Type} (f : α → Bool) (ds : List α) : (ds.any fun d => !f d) = !ds.all f := by
  induction ds with
  | nil => rfl
  | cons d ds ih => rw [List.any_cons, List.all_cons, ih, Bool.not_and]
theorem all_bl {α : Type} (f : α → Bool) (ds : List α) : Mir.allB [.lst (ds.map fun d => D.bl (f d))] = some (.bl (ds.all f)) := by
  have ha := all_bls (ds.map f)
  rw [List.map_map] at ha
  have e : (ds.map f).all id = ds.all f := by simp [List.all_map, Function.comp_def]
  rw [e] at ha
  exact ha
theorem succ_of {n L : Nat} {ds : List D} (hp : pl n L (.tup ds) = true) : ∃ n', n = n' + 1 := by
  cases n with
  | zero => simp [pl] at hp
  | succ n => exact ⟨n, rfl⟩
theorem lenT (ds : List D) : lenG [.tup ds] = some (.int (ds.length : Nat)) := rfl
theorem kind_both {n L : Nat} {d : D} (hp : pl n L d = true) (hn : n ≤ 64) (hL : L ≤ 60) :
    ∃ b : Bool, F_is_kind [d] = .ok (.bl b) ∧ ∀ x0 x2 : Option U, ∃ y2, B__law_are_kinds_2 [x0, some (.d d), x2, none] [] = if b = true then .nx [x0, some (.d d), y2, none] [] else .rt (.d (.bl false)) [] := by
  have hdi := isdic_pl hp
  cases ht : isE .tuple d with
  | false =>
    refine ⟨false, ?_, fun x0 x2 => ⟨none, ?_⟩⟩
    · simp [F_is_kind, m_is_kind, Mir.seqM, Mir.retM, Mir.retNM, Mir.drpM, Mir.asgM, Mir.ifM, Mir.toS, Mir.namG, Mir.tupG, Mir.allG, Mir.lsuG, Mir.varM, Mir.conM, Mir.op2M, Mir.op1M, Mir.tstM, Mir.andM, Mir.orM, Mir.notM, Mir.andT, Mir.orT, Mir.notT, Mir.iteM, Mir.chM, Mir.biM, Mir.isM, Mir.callM, Mir.callC, Mir.callN, Mir.argsM, Mir.O.bind, Mir.rd, Mir.rds, Mir.pures, Mir.tupM, Mir.lstM, Mir.nlsM, Mir.slM, Mir.noP, Mir.someP, Mir.slG, Mir.lcM, Mir.nlcM, Mir.wipeE, Mir.seqI, Mir.rng1I, Mir.rng2I, Mir.zpBI, Mir.seqU, Mir.strI, Mir.forM, Mir.setM, Mir.setC, Mir.parsM, Mir.setUs, Mir.meM, Mir.joinG, Mir.splG, Mir.lenG, Mir.intG, Mir.strG, Mir.listG, Mir.tupleG, Mir.ixG, Mir.addG, Mir.subG, Mir.mulG, Mir.mulOk, Mir.fdivG, Mir.modG, Mir.powG, Mir.negG, Mir.ltG, Mir.leG, Mir.gtG, Mir.geG, Mir.isG, Mir.isNotG, Mir.isNon, Mir.env0, Mir.ins1, Mir.run0, Mir.run1, Mir.runN, Mir.frz, Mir.nxtM, Mir.unM, Mir.appM, Mir.isLst, Mir.kmIx, Mir.kmIn, Mir.scpM, Mir.lowU, Mir.lzpM, Mir.lixM, Mir.lixG, Mir.isLsU, Mir.tupC, Mir.wOf, Mir.frzW, Mir.frzC, Mir.dicM, Mir.nddM, Mir.callV, Mir.callM0, Mir.idxM, Mir.fndS, hdi, ht]
    · simp [B__law_are_kinds_2, Mir.seqM, Mir.retM, Mir.retNM, Mir.drpM, Mir.asgM, Mir.ifM, Mir.toS, Mir.namG, Mir.tupG, Mir.allG, Mir.lsuG, Mir.varM, Mir.conM, Mir.op2M, Mir.op1M, Mir.tstM, Mir.andM, Mir.orM, Mir.notM, Mir.andT, Mir.orT, Mir.notT, Mir.iteM, Mir.chM, Mir.biM, Mir.isM, Mir.callM, Mir.callC, Mir.callN, Mir.argsM, Mir.O.bind, Mir.rd, Mir.rds, Mir.pures, Mir.tupM, Mir.lstM, Mir.nlsM, Mir.slM, Mir.noP, Mir.someP, Mir.slG, Mir.lcM, Mir.nlcM, Mir.wipeE, Mir.seqI, Mir.rng1I, Mir.rng2I, Mir.zpBI, Mir.seqU, Mir.strI, Mir.forM, Mir.setM, Mir.setC, Mir.parsM, Mir.setUs, Mir.meM, Mir.joinG, Mir.splG, Mir.lenG, Mir.intG, Mir.strG, Mir.listG, Mir.tupleG, Mir.ixG, Mir.addG, Mir.subG, Mir.mulG, Mir.mulOk, Mir.fdivG, Mir.modG, Mir.powG, Mir.negG, Mir.ltG, Mir.leG, Mir.gtG, Mir.geG, Mir.isG, Mir.isNotG, Mir.isNon, Mir.env0, Mir.ins1, Mir.run0, Mir.run1, Mir.runN, Mir.frz, Mir.nxtM, Mir.unM, Mir.appM, Mir.isLst, Mir.kmIx, Mir.kmIn, Mir.scpM, Mir.lowU, Mir.lzpM, Mir.lixM, Mir.lixG, Mir.isLsU, Mir.tupC, Mir.wOf, Mir.frzW, Mir.frzC, Mir.dicM, Mir.nddM, Mir.callV, Mir.callM0, Mir.idxM, Mir.fndS, hdi, ht]
  | true =>
    obtain ⟨ds, rfl⟩ := tup_of ht
    obtain ⟨n', rfl⟩ := succ_of hp
    obtain ⟨hlen, hall⟩ := pl_tup.mp hp
    obtain ⟨f, hf⟩ := pick_all fun d hd => ways_both (hall d hd) (by omega) hL
    have hl := lenT ds
    by_cases h2 : ds.length = 2
    · have hC : C_is_kind_1 [some (.d (.tup ds)), none] [] = .ok (.d (.lst (ds.map fun d => D.bl (f d)))) [] :=
        lcM_rows (fun d => D.bl (f d)) (by simp [Mir.seqM, Mir.retM, Mir.retNM, Mir.drpM, Mir.asgM, Mir.ifM, Mir.toS, Mir.namG, Mir.tupG, Mir.allG, Mir.lsuG, Mir.varM, Mir.conM, Mir.op2M, Mir.op1M, Mir.tstM, Mir.andM, Mir.orM, Mir.notM, Mir.andT, Mir.orT, Mir.notT, Mir.iteM, Mir.chM, Mir.biM, Mir.isM, Mir.callM, Mir.callC, Mir.callN, Mir.argsM, Mir.O.bind, Mir.rd, Mir.rds, Mir.pures, Mir.tupM, Mir.lstM, Mir.nlsM, Mir.slM, Mir.noP, Mir.someP, Mir.slG, Mir.lcM, Mir.nlcM, Mir.wipeE, Mir.seqI, Mir.rng1I, Mir.rng2I, Mir.zpBI, Mir.seqU, Mir.strI, Mir.forM, Mir.setM, Mir.setC, Mir.parsM, Mir.setUs, Mir.meM, Mir.joinG, Mir.splG, Mir.lenG, Mir.intG, Mir.strG, Mir.listG, Mir.tupleG, Mir.isdic, Mir.isE, Mir.ixG, Mir.addG, Mir.subG, Mir.mulG, Mir.mulOk, Mir.fdivG, Mir.modG, Mir.powG, Mir.negG, Mir.ltG, Mir.leG, Mir.gtG, Mir.geG, Mir.isG, Mir.isNotG, Mir.isNon, Mir.env0, Mir.ins1, Mir.run0, Mir.run1, Mir.runN, Mir.frz, Mir.nxtM, Mir.unM, Mir.appM, Mir.isLst, Mir.kmIx, Mir.kmIn, Mir.scpM, Mir.lowU, Mir.lzpM, Mir.lixM, Mir.lixG, Mir.isLsU, Mir.tupC, Mir.wOf, Mir.frzW, Mir.frzC, Mir.dicM, Mir.nddM, Mir.callV, Mir.callM0, Mir.idxM, Mir.fndS]) (big_of (by omega)) fun d hd => ⟨_, rfl, rfl, by simp [Mir.seqM, Mir.retM, Mir.retNM, Mir.drpM, Mir.asgM, Mir.ifM, Mir.toS, Mir.namG, Mir.tupG, Mir.allG, Mir.lsuG, Mir.varM, Mir.conM, Mir.op2M, Mir.op1M, Mir.tstM, Mir.andM, Mir.orM, Mir.notM, Mir.andT, Mir.orT, Mir.notT, Mir.iteM, Mir.chM, Mir.biM, Mir.isM, Mir.callM, Mir.callC, Mir.callN, Mir.argsM, Mir.O.bind, Mir.rd, Mir.rds, Mir.pures, Mir.tupM, Mir.lstM, Mir.nlsM, Mir.slM, Mir.noP, Mir.someP, Mir.slG, Mir.lcM, Mir.nlcM, Mir.wipeE, Mir.seqI, Mir.rng1I, Mir.rng2I, Mir.zpBI, Mir.seqU, Mir.strI, Mir.forM, Mir.setM, Mir.setC, Mir.parsM, Mir.setUs, Mir.meM, Mir.joinG, Mir.splG, Mir.lenG, Mir.intG, Mir.strG, Mir.listG, Mir.tupleG, Mir.isdic, Mir.isE, Mir.ixG, Mir.addG, Mir.subG, Mir.mulG, Mir.mulOk, Mir.fdivG, Mir.modG, Mir.powG, Mir.negG, Mir.ltG, Mir.leG, Mir.gtG, Mir.geG, Mir.isG, Mir.isNotG, Mir.isNon, Mir.env0, Mir.ins1, Mir.run0, Mir.run1, Mir.runN, Mir.frz, Mir.nxtM, Mir.unM, Mir.appM, Mir.isLst, Mir.kmIx, Mir.kmIn, Mir.scpM, Mir.lowU, Mir.lzpM, Mir.lixM, Mir.lixG, Mir.isLsU, Mir.tupC, Mir.wOf, Mir.frzW, Mir.frzC, Mir.dicM, Mir.nddM, Mir.callV, Mir.callM0, Mir.idxM, Mir.fndS, (hf d hd).1]⟩
      have ha := all_bl f ds
      have e2 : eqG (.int (ds.length : Nat)) (.int 2) = some (.bl true) := by rw [eqG_int, h2]; rfl
      have n2 : neG (.int (ds.length : Nat)) (.int 2) = some (.bl false) := by rw [neG_int, h2]; rfl
      refine ⟨ds.all f, ?_, fun x0 x2 => ?_⟩
      · simp [F_is_kind, m_is_kind, Mir.seqM, Mir.retM, Mir.retNM, Mir.drpM, Mir.asgM, Mir.ifM, Mir.toS, Mir.namG, Mir.tupG, Mir.allG, Mir.lsuG, Mir.varM, Mir.conM, Mir.op2M, Mir.op1M, Mir.tstM, Mir.andM, Mir.orM, Mir.notM, Mir.andT, Mir.orT, Mir.notT, Mir.iteM, Mir.chM, Mir.biM, Mir.isM, Mir.callM, Mir.callC, Mir.callN, Mir.argsM, Mir.O.bind, Mir.rd, Mir.rds, Mir.pures, Mir.tupM, Mir.lstM, Mir.nlsM, Mir.slM, Mir.noP, Mir.someP, Mir.slG, Mir.lcM, Mir.nlcM, Mir.wipeE, Mir.seqI, Mir.rng1I, Mir.rng2I, Mir.zpBI, Mir.seqU, Mir.strI, Mir.forM, Mir.setM, Mir.setC, Mir.parsM, Mir.setUs, Mir.meM, Mir.joinG, Mir.splG, Mir.intG, Mir.strG, Mir.listG, Mir.tupleG, Mir.ixG, Mir.addG, Mir.subG, Mir.mulG, Mir.mulOk, Mir.fdivG, Mir.modG, Mir.powG, Mir.negG, Mir.ltG, Mir.leG, Mir.gtG, Mir.geG, Mir.isG, Mir.isNotG, Mir.isNon, Mir.env0, Mir.ins1, Mir.run0, Mir.run1, Mir.runN, Mir.frz, Mir.nxtM, Mir.unM, Mir.appM, Mir.isLst, Mir.kmIx, Mir.kmIn, Mir.scpM, Mir.lowU, Mir.lzpM, Mir.lixM, Mir.lixG, Mir.isLsU, Mir.tupC, Mir.wOf, Mir.frzW, Mir.frzC, Mir.dicM, Mir.nddM, Mir.callV, Mir.callM0, Mir.idxM, Mir.fndS, hdi, ht, hl, e2, hC, ha, -List.map_map]
      · have key := forL_find (S := []) (g := namG 2) (f := B__law_are_kinds_1) (fun ρ => ∃ y, ρ = [x0, some (.d (.tup ds)), y, none]) (fun d => !f d) (.d (.bl false)) ds [x0, some (.d (.tup ds)), x2, none] ⟨x2, rfl⟩ (fun d hd ρ hI => by
          obtain ⟨y, rfl⟩ := hI
          have hb := (hf d hd).2 x0 (some (.d (.tup ds)))
          refine ⟨[x0, some (.d (.tup ds)), some (.d d), none], rfl, fun z => ?_, fun z => ⟨_, ?_, ⟨some (.d d), rfl⟩⟩⟩
          · rw [hb, if_neg (by simpa using z)]
          · rw [hb, if_pos (by simpa using z)])
        rw [any_not_all] at key
        cases hc : ds.all f with
        | true =>
          obtain ⟨ρ2, k1, y, k2⟩ := key.2 (by rw [hc]; rfl)
          refine ⟨y, ?_⟩
          subst k2
          simp [B__law_are_kinds_2, Mir.seqM, Mir.retM, Mir.retNM, Mir.drpM, Mir.asgM, Mir.ifM, Mir.toS, Mir.namG, Mir.tupG, Mir.allG, Mir.lsuG, Mir.varM, Mir.conM, Mir.op2M, Mir.op1M, Mir.tstM, Mir.andM, Mir.orM, Mir.notM, Mir.andT, Mir.orT, Mir.notT, Mir.iteM, Mir.chM, Mir.biM, Mir.isM, Mir.callM, Mir.callC, Mir.callN, Mir.argsM, Mir.O.bind, Mir.rd, Mir.rds, Mir.pures, Mir.tupM, Mir.lstM, Mir.nlsM, Mir.slM, Mir.noP, Mir.someP, Mir.slG, Mir.lcM, Mir.nlcM, Mir.wipeE, Mir.seqI, Mir.rng1I, Mir.rng2I, Mir.zpBI, Mir.seqU, Mir.strI, Mir.forM, Mir.setM, Mir.setC, Mir.parsM, Mir.setUs, Mir.meM, Mir.joinG, Mir.splG, Mir.intG, Mir.strG, Mir.listG, Mir.tupleG, Mir.ixG, Mir.addG, Mir.subG, Mir.mulG, Mir.mulOk, Mir.fdivG, Mir.modG, Mir.powG, Mir.negG, Mir.ltG, Mir.leG, Mir.gtG, Mir.geG, Mir.isG, Mir.isNotG, Mir.isNon, Mir.env0, Mir.ins1, Mir.run0, Mir.run1, Mir.runN, Mir.frz, Mir.nxtM, Mir.unM, Mir.appM, Mir.isLst, Mir.kmIx, Mir.kmIn, Mir.scpM, Mir.lowU, Mir.lzpM, Mir.lixM, Mir.lixG, Mir.isLsU, Mir.tupC, Mir.wOf, Mir.frzW, Mir.frzC, Mir.dicM, Mir.nddM, Mir.callV, Mir.callM0, Mir.idxM, Mir.fndS, hdi, ht, hl, n2, k1]
        | false =>
          have k1 := key.1 (by rw [hc]; rfl)
          refine ⟨none, ?_⟩
          simp [B__law_are_kinds_2, Mir.seqM, Mir.retM, Mir.retNM, Mir.drpM, Mir.asgM, Mir.ifM, Mir.toS, Mir.namG, Mir.tupG, Mir.allG, Mir.lsuG, Mir.varM, Mir.conM, Mir.op2M, Mir.op1M, Mir.tstM, Mir.andM, Mir.orM, Mir.notM, Mir.andT, Mir.orT, Mir.notT, Mir.iteM, Mir.chM, Mir.biM, Mir.isM, Mir.callM, Mir.callC, Mir.callN, Mir.argsM, Mir.O.bind, Mir.rd, Mir.rds, Mir.pures, Mir.tupM, Mir.lstM, Mir.nlsM, Mir.slM, Mir.noP, Mir.someP, Mir.slG, Mir.lcM, Mir.nlcM, Mir.wipeE, Mir.seqI, Mir.rng1I, Mir.rng2I, Mir.zpBI, Mir.seqU, Mir.strI, Mir.forM, Mir.setM, Mir.setC, Mir.parsM, Mir.setUs, Mir.meM, Mir.joinG, Mir.splG, Mir.intG, Mir.strG, Mir.listG, Mir.tupleG, Mir.ixG, Mir.addG, Mir.subG, Mir.mulG, Mir.mulOk, Mir.fdivG, Mir.modG, Mir.powG, Mir.negG, Mir.ltG, Mir.leG, Mir.gtG, Mir.geG, Mir.isG, Mir.isNotG, Mir.isNon, Mir.env0, Mir.ins1, Mir.run0, Mir.run1, Mir.runN, Mir.frz, Mir.nxtM, Mir.unM, Mir.appM, Mir.isLst, Mir.kmIx, Mir.kmIn, Mir.scpM, Mir.lowU, Mir.lzpM, Mir.lixM, Mir.lixG, Mir.isLsU, Mir.tupC, Mir.wOf, Mir.frzW, Mir.frzC, Mir.dicM, Mir.nddM, Mir.callV, Mir.callM0, Mir.idxM, Mir.fndS, hdi, ht, hl, n2, k1]
    · have h2' : ¬ (ds.length : Int) = 2 := by omega
      have e2 : eqG (.int (ds.length : Nat)) (.int 2) = some (.bl false) := by rw [eqG_int, beq_eq_false_iff_ne.mpr h2']
      have n2 : neG (.int (ds.length : Nat)) (.int 2) = some (.bl true) := by rw [neG_int, beq_eq_false_iff_ne.mpr h2']; rfl
      refine ⟨false, ?_, fun x0 x2 => ⟨none, ?_⟩⟩
      · simp [F_is_kind, m_is_kind, Mir.seqM, Mir.retM, Mir.retNM, Mir.drpM, Mir.asgM, Mir.ifM, Mir.toS, Mir.namG, Mir.tupG, Mir.allG, Mir.lsuG, Mir.varM, Mir.conM, Mir.op2M, Mir.op1M, Mir.tstM, Mir.andM, Mir.orM, Mir.notM, Mir.andT, Mir.orT, Mir.notT, Mir.iteM, Mir.chM, Mir.biM, Mir.isM, Mir.callM, Mir.callC, Mir.callN, Mir.argsM, Mir.O.bind, Mir.rd, Mir.rds, Mir.pures, Mir.tupM, Mir.lstM, Mir.nlsM, Mir.slM, Mir.noP, Mir.someP, Mir.slG, Mir.lcM, Mir.nlcM, Mir.wipeE, Mir.seqI, Mir.rng1I, Mir.rng2I, Mir.zpBI, Mir.seqU, Mir.strI, Mir.forM, Mir.setM, Mir.setC, Mir.parsM, Mir.setUs, Mir.meM, Mir.joinG, Mir.splG, Mir.intG, Mir.strG, Mir.listG, Mir.tupleG, Mir.ixG, Mir.addG, Mir.subG, Mir.mulG, Mir.mulOk, Mir.fdivG, Mir.modG, Mir.powG, Mir.negG, Mir.ltG, Mir.leG, Mir.gtG, Mir.geG, Mir.isG, Mir.isNotG, Mir.isNon, Mir.env0, Mir.ins1, Mir.run0, Mir.run1, Mir.runN, Mir.frz, Mir.nxtM, Mir.unM, Mir.appM, Mir.isLst, Mir.kmIx, Mir.kmIn, Mir.scpM, Mir.lowU, Mir.lzpM, Mir.lixM, Mir.lixG, Mir.isLsU, Mir.tupC, Mir.wOf, Mir.frzW, Mir.frzC, Mir.dicM, Mir.nddM, Mir.callV, Mir.callM0, Mir.idxM, Mir.fndS, hdi, ht, hl, e2]
      · simp [B__law_are_kinds_2, Mir.seqM, Mir.retM, Mir.retNM, Mir.drpM, Mir.asgM, Mir.ifM, Mir.toS, Mir.namG, Mir.tupG, Mir.allG, Mir.lsuG, Mir.varM, Mir.conM, Mir.op2M, Mir.op1M, Mir.tstM, Mir.andM, Mir.orM, Mir.notM, Mir.andT, Mir.orT, Mir.notT, Mir.iteM, Mir.chM, Mir.biM, Mir.isM, Mir.callM, Mir.callC, Mir.callN, Mir.argsM, Mir.O.bind, Mir.rd, Mir.rds, Mir.pures, Mir.tupM, Mir.lstM, Mir.nlsM, Mir.slM, Mir.noP, Mir.someP, Mir.slG, Mir.lcM, Mir.nlcM, Mir.wipeE, Mir.seqI, Mir.rng1I, Mir.rng2I, Mir.zpBI, Mir.seqU, Mir.strI, Mir.forM, Mir.setM, Mir.setC, Mir.parsM, Mir.setUs, Mir.meM, Mir.joinG, Mir.splG, Mir.intG, Mir.strG, Mir.listG, Mir.tupleG, Mir.ixG, Mir.addG, Mir.subG, Mir.mulG, Mir.mulOk, Mir.fdivG, Mir.modG, Mir.powG, Mir.negG, Mir.ltG, Mir.leG, Mir.gtG, Mir.geG, Mir.isG, Mir.isNotG, Mir.isNon, Mir.env0, Mir.ins1, Mir.run0, Mir.run1, Mir.runN, Mir.frz, Mir.nxtM, Mir.unM, Mir.appM, Mir.isLst, Mir.kmIx, Mir.kmIn, Mir.scpM, Mir.lowU, Mir.lzpM, Mir.lixM, Mir.lixG, Mir.isLsU, Mir.tupC, Mir.wOf, Mir.frzW, Mir.frzC, Mir.dicM, Mir.nddM, Mir.callV, Mir.callM0, Mir.idxM, Mir.fndS, hdi, ht, hl, n2]
theorem kinds_both {n L : Nat} {d : D} (hp : pl n L d = true) (hn : n ≤ 64) (hL : L ≤ 60) :
    ∃ b : Bool, F_are_kinds [d] = .ok (.bl b) ∧ F__law_are_kinds [d] = .ok (.bl b) ∧ (b = true → ∃ ds, d = .tup ds) := by
  have hdi := isdic_pl hp
  cases ht : isE .tuple d with
  | false =>
    refine ⟨false, ?_, ?_, fun z => by cases z⟩
    · simp [F_are_kinds, m_are_kinds, Mir.seqM, Mir.retM, Mir.retNM, Mir.drpM, Mir.asgM, Mir.ifM, Mir.toS, Mir.namG, Mir.tupG, Mir.allG, Mir.lsuG, Mir.varM, Mir.conM, Mir.op2M, Mir.op1M, Mir.tstM, Mir.andM, Mir.orM, Mir.notM, Mir.andT, Mir.orT, Mir.notT, Mir.iteM, Mir.chM, Mir.biM, Mir.isM, Mir.callM, Mir.callC, Mir.callN, Mir.argsM, Mir.O.bind, Mir.rd, Mir.rds, Mir.pures, Mir.tupM, Mir.lstM, Mir.nlsM, Mir.slM, Mir.noP, Mir.someP, Mir.slG, Mir.lcM, Mir.nlcM, Mir.wipeE, Mir.seqI, Mir.rng1I, Mir.rng2I, Mir.zpBI, Mir.seqU, Mir.strI, Mir.forM, Mir.setM, Mir.setC, Mir.parsM, Mir.setUs, Mir.meM, Mir.joinG, Mir.splG, Mir.lenG, Mir.intG, Mir.strG, Mir.listG, Mir.tupleG, Mir.ixG, Mir.addG, Mir.subG, Mir.mulG, Mir.mulOk, Mir.fdivG, Mir.modG, Mir.powG, Mir.negG, Mir.ltG, Mir.leG, Mir.gtG, Mir.geG, Mir.isG, Mir.isNotG, Mir.isNon, Mir.env0, Mir.ins1, Mir.run0, Mir.run1, Mir.runN, Mir.frz, Mir.nxtM, Mir.unM, Mir.appM, Mir.isLst, Mir.kmIx, Mir.kmIn, Mir.scpM, Mir.lowU, Mir.lzpM, Mir.lixM, Mir.lixG, Mir.isLsU, Mir.tupC, Mir.wOf, Mir.frzW, Mir.frzC, Mir.dicM, Mir.nddM, Mir.callV, Mir.callM0, Mir.idxM, Mir.fndS, hdi, ht]
    · simp [F__law_are_kinds, m__law_are_kinds, Mir.seqM, Mir.retM, Mir.retNM, Mir.drpM, Mir.asgM, Mir.ifM, Mir.toS, Mir.namG, Mir.tupG, Mir.allG, Mir.lsuG, Mir.varM, Mir.conM, Mir.op2M, Mir.op1M, Mir.tstM, Mir.andM, Mir.orM, Mir.notM, Mir.andT, Mir.orT, Mir.notT, Mir.iteM, Mir.chM, Mir.biM, Mir.isM, Mir.callM, Mir.callC, Mir.callN, Mir.argsM, Mir.O.bind, Mir.rd, Mir.rds, Mir.pures, Mir.tupM, Mir.lstM, Mir.nlsM, Mir.slM, Mir.noP, Mir.someP, Mir.slG, Mir.lcM, Mir.nlcM, Mir.wipeE, Mir.seqI, Mir.rng1I, Mir.rng2I, Mir.zpBI, Mir.seqU, Mir.strI, Mir.forM, Mir.setM, Mir.setC, Mir.parsM, Mir.setUs, Mir.meM, Mir.joinG, Mir.splG, Mir.lenG, Mir.intG, Mir.strG, Mir.listG, Mir.tupleG, Mir.ixG, Mir.addG, Mir.subG, Mir.mulG, Mir.mulOk, Mir.fdivG, Mir.modG, Mir.powG, Mir.negG, Mir.ltG, Mir.leG, Mir.gtG, Mir.geG, Mir.isG, Mir.isNotG, Mir.isNon, Mir.env0, Mir.ins1, Mir.run0, Mir.run1, Mir.runN, Mir.frz, Mir.nxtM, Mir.unM, Mir.appM, Mir.isLst, Mir.kmIx, Mir.kmIn, Mir.scpM, Mir.lowU, Mir.lzpM, Mir.lixM, Mir.lixG, Mir.isLsU, Mir.tupC, Mir.wOf, Mir.frzW, Mir.frzC, Mir.dicM, Mir.nddM, Mir.callV, Mir.callM0, Mir.idxM, Mir.fndS, hdi, ht]
  | true =>
    obtain ⟨ds, rfl⟩ := tup_of ht
    obtain ⟨n', rfl⟩ := succ_of hp
    obtain ⟨hlen, hall⟩ := pl_tup.mp hp
    obtain ⟨f, hf⟩ := pick_all fun d hd => kind_both (hall d hd) (by omega) hL
    have hl := lenT ds
    by_cases h1 : 1 ≤ ds.length
    · by_cases h4 : ds.length ≤ 4
      · have h1' : (1 : Int) ≤ (ds.length : Int) := by omega
        have h4' : (ds.length : Int) ≤ 4 := by omega
        have hC : C_are_kinds_1 [some (.d (.tup ds)), none] [] = .ok (.d (.lst (ds.map fun d => D.bl (f d)))) [] :=
          lcM_rows (fun d => D.bl (f d)) (by simp [Mir.seqM, Mir.retM, Mir.retNM, Mir.drpM, Mir.asgM, Mir.ifM, Mir.toS, Mir.namG, Mir.tupG, Mir.allG, Mir.lsuG, Mir.varM, Mir.conM, Mir.op2M, Mir.op1M, Mir.tstM, Mir.andM, Mir.orM, Mir.notM, Mir.andT, Mir.orT, Mir.notT, Mir.iteM, Mir.chM, Mir.biM, Mir.isM, Mir.callM, Mir.callC, Mir.callN, Mir.argsM, Mir.O.bind, Mir.rd, Mir.rds, Mir.pures, Mir.tupM, Mir.lstM, Mir.nlsM, Mir.slM, Mir.noP, Mir.someP, Mir.slG, Mir.lcM, Mir.nlcM, Mir.wipeE, Mir.seqI, Mir.rng1I, Mir.rng2I, Mir.zpBI, Mir.seqU, Mir.strI, Mir.forM, Mir.setM, Mir.setC, Mir.parsM, Mir.setUs, Mir.meM, Mir.joinG, Mir.splG, Mir.lenG, Mir.intG, Mir.strG, Mir.listG, Mir.tupleG, Mir.isdic, Mir.isE, Mir.ixG, Mir.addG, Mir.subG, Mir.mulG, Mir.mulOk, Mir.fdivG, Mir.modG, Mir.powG, Mir.negG, Mir.ltG, Mir.leG, Mir.gtG, Mir.geG, Mir.isG, Mir.isNotG, Mir.isNon, Mir.env0, Mir.ins1, Mir.run0, Mir.run1, Mir.runN, Mir.frz, Mir.nxtM, Mir.unM, Mir.appM, Mir.isLst, Mir.kmIx, Mir.kmIn, Mir.scpM, Mir.lowU, Mir.lzpM, Mir.lixM, Mir.lixG, Mir.isLsU, Mir.tupC, Mir.wOf, Mir.frzW, Mir.frzC, Mir.dicM, Mir.nddM, Mir.callV, Mir.callM0, Mir.idxM, Mir.fndS]) (big_of (by omega)) fun d hd => ⟨_, rfl, rfl, by simp [Mir.seqM, Mir.retM, Mir.retNM, Mir.drpM, Mir.asgM, Mir.ifM, Mir.toS, Mir.namG, Mir.tupG, Mir.allG, Mir.lsuG, Mir.varM, Mir.conM, Mir.op2M, Mir.op1M, Mir.tstM, Mir.andM, Mir.orM, Mir.notM, Mir.andT, Mir.orT, Mir.notT, Mir.iteM, Mir.chM, Mir.biM, Mir.isM, Mir.callM, Mir.callC, Mir.callN, Mir.argsM, Mir.O.bind, Mir.rd, Mir.rds, Mir.pures, Mir.tupM, Mir.lstM, Mir.nlsM, Mir.slM, Mir.noP, Mir.someP, Mir.slG, Mir.lcM, Mir.nlcM, Mir.wipeE, Mir.seqI, Mir.rng1I, Mir.rng2I, Mir.zpBI, Mir.seqU, Mir.strI, Mir.forM, Mir.setM, Mir.setC, Mir.parsM, Mir.setUs, Mir.meM, Mir.joinG, Mir.splG, Mir.lenG, Mir.intG, Mir.strG, Mir.listG, Mir.tupleG, Mir.isdic, Mir.isE, Mir.ixG, Mir.addG, Mir.subG, Mir.mulG, Mir.mulOk, Mir.fdivG, Mir.modG, Mir.powG, Mir.negG, Mir.ltG, Mir.leG, Mir.gtG, Mir.geG, Mir.isG, Mir.isNotG, Mir.isNon, Mir.env0, Mir.ins1, Mir.run0, Mir.run1, Mir.runN, Mir.frz, Mir.nxtM, Mir.unM, Mir.appM, Mir.isLst, Mir.kmIx, Mir.kmIn, Mir.scpM, Mir.lowU, Mir.lzpM, Mir.lixM, Mir.lixG, Mir.isLsU, Mir.tupC, Mir.wOf, Mir.frzW, Mir.frzC, Mir.dicM, Mir.nddM, Mir.callV, Mir.callM0, Mir.idxM, Mir.fndS, (hf d hd).1]⟩
        have ha := all_bl f ds
        have key := forL_find (S := []) (g := namG 1) (f := B__law_are_kinds_2) (fun ρ => ∃ x y, ρ = [some (.d (.tup ds)), x, y, none]) (fun d => !f d) (.d (.bl false)) ds [some (.d (.tup ds)), none, none, none] ⟨none, none, rfl⟩ (fun d hd ρ hI => by
          obtain ⟨x, y, rfl⟩ := hI
          obtain ⟨y2, hb⟩ := (hf d hd).2 (some (.d (.tup ds))) y
          refine ⟨[some (.d (.tup ds)), some (.d d), y, none], rfl, fun z => ?_, fun z => ⟨_, ?_, ⟨some (.d d), y2, rfl⟩⟩⟩
          · rw [hb, if_neg (by simpa using z)]
          · rw [hb, if_pos (by simpa using z)])
        rw [any_not_all] at key
        refine ⟨ds.all f, ?_, ?_, fun _ => ⟨ds, rfl⟩⟩
        · simp [F_are_kinds, m_are_kinds, Mir.seqM, Mir.retM, Mir.retNM, Mir.drpM, Mir.asgM, Mir.ifM, Mir.toS, Mir.namG, Mir.tupG, Mir.allG, Mir.lsuG, Mir.varM, Mir.conM, Mir.op2M, Mir.op1M, Mir.tstM, Mir.andM, Mir.orM, Mir.notM, Mir.andT, Mir.orT, Mir.notT, Mir.iteM, Mir.chM, Mir.biM, Mir.isM, Mir.callM, Mir.callC, Mir.callN, Mir.argsM, Mir.O.bind, Mir.rd, Mir.rds, Mir.pures, Mir.tupM, Mir.lstM, Mir.nlsM, Mir.slM, Mir.noP, Mir.someP, Mir.slG, Mir.lcM, Mir.nlcM, Mir.wipeE, Mir.seqI, Mir.rng1I, Mir.rng2I, Mir.zpBI, Mir.seqU, Mir.strI, Mir.forM, Mir.setM, Mir.setC, Mir.parsM, Mir.setUs, Mir.meM, Mir.joinG, Mir.splG, Mir.intG, Mir.strG, Mir.listG, Mir.tupleG, Mir.ixG, Mir.addG, Mir.subG, Mir.mulG, Mir.mulOk, Mir.fdivG, Mir.modG, Mir.powG, Mir.negG, Mir.ltG, Mir.leG, Mir.gtG, Mir.geG, Mir.isG, Mir.isNotG, Mir.isNon, Mir.env0, Mir.ins1, Mir.run0, Mir.run1, Mir.runN, Mir.frz, Mir.nxtM, Mir.unM, Mir.appM, Mir.isLst, Mir.kmIx, Mir.kmIn, Mir.scpM, Mir.lowU, Mir.lzpM, Mir.lixM, Mir.lixG, Mir.isLsU, Mir.tupC, Mir.wOf, Mir.frzW, Mir.frzC, Mir.dicM, Mir.nddM, Mir.callV, Mir.callM0, Mir.idxM, Mir.fndS, hdi, ht, hl, h1', h4', hC, ha, -List.map_map]
        · cases hc : ds.all f with
          | true =>
            obtain ⟨ρ2, k1, _⟩ := key.2 (by rw [hc]; rfl)
            simp [F__law_are_kinds, m__law_are_kinds, Mir.seqM, Mir.retM, Mir.retNM, Mir.drpM, Mir.asgM, Mir.ifM, Mir.toS, Mir.namG, Mir.tupG, Mir.allG, Mir.lsuG, Mir.varM, Mir.conM, Mir.op2M, Mir.op1M, Mir.tstM, Mir.andM, Mir.orM, Mir.notM, Mir.andT, Mir.orT, Mir.notT, Mir.iteM, Mir.chM, Mir.biM, Mir.isM, Mir.callM, Mir.callC, Mir.callN, Mir.argsM, Mir.O.bind, Mir.rd, Mir.rds, Mir.pures, Mir.tupM, Mir.lstM, Mir.nlsM, Mir.slM, Mir.noP, Mir.someP, Mir.slG, Mir.lcM, Mir.nlcM, Mir.wipeE, Mir.seqI, Mir.rng1I, Mir.rng2I, Mir.zpBI, Mir.seqU, Mir.strI, Mir.forM, Mir.setM, Mir.setC, Mir.parsM, Mir.setUs, Mir.meM, Mir.joinG, Mir.splG, Mir.intG, Mir.strG, Mir.listG, Mir.tupleG, Mir.ixG, Mir.addG, Mir.subG, Mir.mulG, Mir.mulOk, Mir.fdivG, Mir.modG, Mir.powG, Mir.negG, Mir.ltG, Mir.leG, Mir.gtG, Mir.geG, Mir.isG, Mir.isNotG, Mir.isNon, Mir.env0, Mir.ins1, Mir.run0, Mir.run1, Mir.runN, Mir.frz, Mir.nxtM, Mir.unM, Mir.appM, Mir.isLst, Mir.kmIx, Mir.kmIn, Mir.scpM, Mir.lowU, Mir.lzpM, Mir.lixM, Mir.lixG, Mir.isLsU, Mir.tupC, Mir.wOf, Mir.frzW, Mir.frzC, Mir.dicM, Mir.nddM, Mir.callV, Mir.callM0, Mir.idxM, Mir.fndS, hdi, ht, hl, h1', h4', k1]
          | false =>
            have k1 := key.1 (by rw [hc]; rfl)
            simp [F__law_are_kinds, m__law_are_kinds, Mir.seqM, Mir.retM, Mir.retNM, Mir.drpM, Mir.asgM, Mir.ifM, Mir.toS, Mir.namG, Mir.tupG, Mir.allG, Mir.lsuG, Mir.varM, Mir.conM, Mir.op2M, Mir.op1M, Mir.tstM, Mir.andM, Mir.orM, Mir.notM, Mir.andT, Mir.orT, Mir.notT, Mir.iteM, Mir.chM, Mir.biM, Mir.isM, Mir.callM, Mir.callC, Mir.callN, Mir.argsM, Mir.O.bind, Mir.rd, Mir.rds, Mir.pures, Mir.tupM, Mir.lstM, Mir.nlsM, Mir.slM, Mir.noP, Mir.someP, Mir.slG, Mir.lcM, Mir.nlcM, Mir.wipeE, Mir.seqI, Mir.rng1I, Mir.rng2I, Mir.zpBI, Mir.seqU, Mir.strI, Mir.forM, Mir.setM, Mir.setC, Mir.parsM, Mir.setUs, Mir.meM, Mir.joinG, Mir.splG, Mir.intG, Mir.strG, Mir.listG, Mir.tupleG, Mir.ixG, Mir.addG, Mir.subG, Mir.mulG, Mir.mulOk, Mir.fdivG, Mir.modG, Mir.powG, Mir.negG, Mir.ltG, Mir.leG, Mir.gtG, Mir.geG, Mir.isG, Mir.isNotG, Mir.isNon, Mir.env0, Mir.ins1, Mir.run0, Mir.run1, Mir.runN, Mir.frz, Mir.nxtM, Mir.unM, Mir.appM, Mir.isLst, Mir.kmIx, Mir.kmIn, Mir.scpM, Mir.lowU, Mir.lzpM, Mir.lixM, Mir.lixG, Mir.isLsU, Mir.tupC, Mir.wOf, Mir.frzW, Mir.frzC, Mir.dicM, Mir.nddM, Mir.callV, Mir.callM0, Mir.idxM, Mir.fndS, hdi, ht, hl, h1', h4', k1]
      · have h1' : (1 : Int) ≤ (ds.length : Int) := by omega
        have h4' : ¬ (ds.length : Int) ≤ 4 := by omega
        refine ⟨false, ?_, ?_, fun z => by cases z⟩
        · simp [F_are_kinds, m_are_kinds, Mir.seqM, Mir.retM, Mir.retNM, Mir.drpM, Mir.asgM, Mir.ifM, Mir.toS, Mir.namG, Mir.tupG, Mir.allG, Mir.lsuG, Mir.varM, Mir.conM, Mir.op2M, Mir.op1M, Mir.tstM, Mir.andM, Mir.orM, Mir.notM, Mir.andT, Mir.orT, Mir.notT, Mir.iteM, Mir.chM, Mir.biM, Mir.isM, Mir.callM, Mir.callC, Mir.callN, Mir.argsM, Mir.O.bind, Mir.rd, Mir.rds, Mir.pures, Mir.tupM, Mir.lstM, Mir.nlsM, Mir.slM, Mir.noP, Mir.someP, Mir.slG, Mir.lcM, Mir.nlcM, Mir.wipeE, Mir.seqI, Mir.rng1I, Mir.rng2I, Mir.zpBI, Mir.seqU, Mir.strI, Mir.forM, Mir.setM, Mir.setC, Mir.parsM, Mir.setUs, Mir.meM, Mir.joinG, Mir.splG, Mir.intG, Mir.strG, Mir.listG, Mir.tupleG, Mir.ixG, Mir.addG, Mir.subG, Mir.mulG, Mir.mulOk, Mir.fdivG, Mir.modG, Mir.powG, Mir.negG, Mir.ltG, Mir.leG, Mir.gtG, Mir.geG, Mir.isG, Mir.isNotG, Mir.isNon, Mir.env0, Mir.ins1, Mir.run0, Mir.run1, Mir.runN, Mir.frz, Mir.nxtM, Mir.unM, Mir.appM, Mir.isLst, Mir.kmIx, Mir.kmIn, Mir.scpM, Mir.lowU, Mir.lzpM, Mir.lixM, Mir.lixG, Mir.isLsU, Mir.tupC, Mir.wOf, Mir.frzW, Mir.frzC, Mir.dicM, Mir.nddM, Mir.callV, Mir.callM0, Mir.idxM, Mir.fndS, hdi, ht, hl, h1', h4']
        · simp [F__law_are_kinds, m__law_are_kinds, Mir.seqM, Mir.retM, Mir.retNM, Mir.drpM, Mir.asgM, Mir.ifM, Mir.toS, Mir.namG, Mir.tupG, Mir.allG, Mir.lsuG, Mir.varM, Mir.conM, Mir.op2M, Mir.op1M, Mir.tstM, Mir.andM, Mir.orM, Mir.notM, Mir.andT, Mir.orT, Mir.notT, Mir.iteM, Mir.chM, Mir.biM, Mir.isM, Mir.callM, Mir.callC, Mir.callN, Mir.argsM, Mir.O.bind, Mir.rd, Mir.rds, Mir.pures, Mir.tupM, Mir.lstM, Mir.nlsM, Mir.slM, Mir.noP, Mir.someP, Mir.slG, Mir.lcM, Mir.nlcM, Mir.wipeE, Mir.seqI, Mir.rng1I, Mir.rng2I, Mir.zpBI, Mir.seqU, Mir.strI, Mir.forM, Mir.setM, Mir.setC, Mir.parsM, Mir.setUs, Mir.meM, Mir.joinG, Mir.splG, Mir.intG, Mir.strG, Mir.listG, Mir.tupleG, Mir.ixG, Mir.addG, Mir.subG, Mir.mulG, Mir.mulOk, Mir.fdivG, Mir.modG, Mir.powG, Mir.negG, Mir.ltG, Mir.leG, Mir.gtG, Mir.geG, Mir.isG, Mir.isNotG, Mir.isNon, Mir.env0, Mir.ins1, Mir.run0, Mir.run1, Mir.runN, Mir.frz, Mir.nxtM, Mir.unM, Mir.appM, Mir.isLst, Mir.kmIx, Mir.kmIn, Mir.scpM, Mir.lowU, Mir.lzpM, Mir.lixM, Mir.lixG, Mir.isLsU, Mir.tupC, Mir.wOf, Mir.frzW, Mir.frzC, Mir.dicM, Mir.nddM, Mir.callV, Mir.callM0, Mir.idxM, Mir.fndS, hdi, ht, hl, h1', h4']
    · have h1' : ¬ (1 : Int) ≤ (ds.length : Int) := by omega
      refine ⟨false, ?_, ?_, fun z => by cases z⟩
      · simp [F_are_kinds, m_are_kinds, Mir.seqM, Mir.retM, Mir.retNM, Mir.drpM, Mir.asgM, Mir.ifM, Mir.toS, Mir.namG, Mir.tupG, Mir.allG, Mir.lsuG, Mir.varM, Mir.conM, Mir.op2M, Mir.op1M, Mir.tstM, Mir.andM, Mir.orM, Mir.notM, Mir.andT, Mir.orT, Mir.notT, Mir.iteM, Mir.chM, Mir.biM, Mir.isM, Mir.callM, Mir.callC, Mir.callN, Mir.argsM, Mir.O.bind, Mir.rd, Mir.rds, Mir.pures, Mir.tupM, Mir.lstM, Mir.nlsM, Mir.slM, Mir.noP, Mir.someP, Mir.slG, Mir.lcM, Mir.nlcM, Mir.wipeE, Mir.seqI, Mir.rng1I, Mir.rng2I, Mir.zpBI, Mir.seqU, Mir.strI, Mir.forM, Mir.setM, Mir.setC, Mir.parsM, Mir.setUs, Mir.meM, Mir.joinG, Mir.splG, Mir.intG, Mir.strG, Mir.listG, Mir.tupleG, Mir.ixG, Mir.addG, Mir.subG, Mir.mulG, Mir.mulOk, Mir.fdivG, Mir.modG, Mir.powG, Mir.negG, Mir.ltG, Mir.leG, Mir.gtG, Mir.geG, Mir.isG, Mir.isNotG, Mir.isNon, Mir.env0, Mir.ins1, Mir.run0, Mir.run1, Mir.runN, Mir.frz, Mir.nxtM, Mir.unM, Mir.appM, Mir.isLst, Mir.kmIx, Mir.kmIn, Mir.scpM, Mir.lowU, Mir.lzpM, Mir.lixM, Mir.lixG, Mir.isLsU, Mir.tupC, Mir.wOf, Mir.frzW, Mir.frzC, Mir.dicM, Mir.nddM, Mir.callV, Mir.callM0, Mir.idxM, Mir.fndS, hdi, ht, hl, h1']
      · simp [F__law_are_kinds, m__law_are_kinds, Mir.seqM, Mir.retM, Mir.retNM, Mir.drpM, Mir.asgM, Mir.ifM, Mir.toS, Mir.namG, Mir.tupG, Mir.allG, Mir.lsuG, Mir.varM, Mir.conM, Mir.op2M, Mir.op1M, Mir.tstM, Mir.andM, Mir.orM, Mir.notM, Mir.andT, Mir.orT, Mir.notT, Mir.iteM, Mir.chM, Mir.biM, Mir.isM, Mir.callM, Mir.callC, Mir.callN, Mir.argsM, Mir.O.bind, Mir.rd, Mir.rds, Mir.pures, Mir.tupM, Mir.lstM, Mir.nlsM, Mir.slM, Mir.noP, Mir.someP, Mir.slG, Mir.lcM, Mir.nlcM, Mir.wipeE, Mir.seqI, Mir.rng1I, Mir.rng2I, Mir.zpBI, Mir.seqU, Mir.strI, Mir.forM, Mir.setM, Mir.setC, Mir.parsM, Mir.setUs, Mir.meM, Mir.joinG, Mir.splG, Mir.intG, Mir.strG, Mir.listG, Mir.tupleG, Mir.ixG, Mir.addG, Mir.subG, Mir.mulG, Mir.mulOk, Mir.fdivG, Mir.modG, Mir.powG, Mir.negG, Mir.ltG, Mir.leG, Mir.gtG, Mir.geG, Mir.isG, Mir.isNotG, Mir.isNon, Mir.env0, Mir.ins1, Mir.run0, Mir.run1, Mir.runN, Mir.frz, Mir.nxtM, Mir.unM, Mir.appM, Mir.isLst, Mir.kmIx, Mir.kmIn, Mir.scpM, Mir.lowU, Mir.lzpM, Mir.lixM, Mir.lixG, Mir.isLsU, Mir.tupC, Mir.wOf, Mir.frzW, Mir.frzC, Mir.dicM, Mir.nddM, Mir.callV, Mir.callM0, Mir.idxM, Mir.fndS, hdi, ht, hl, h1']

/-! ### parts, roads -/
theorem num_both {n L : Nat} {d : D} (hp : pl n L d = true) (hi : Int) : ∃ b : Bool, F_is_number [d, .int 0, .int hi] = .ok (.bl b) ∧ F__law_int [d, .int 0, .int hi] = .ok (.bl b) := by
  have hdi := isdic_pl hp
  cases d with
  | int v =>
    refine ⟨decide (0 ≤ v) && decide (v ≤ hi), isnumB v 0 hi, ?_⟩
    by_cases h1 : 0 ≤ v
    · by_cases h2 : v ≤ hi <;> simp [F__law_int, m__law_int, Mir.seqM, Mir.retM, Mir.retNM, Mir.drpM, Mir.asgM, Mir.ifM, Mir.toS, Mir.namG, Mir.tupG, Mir.allG, Mir.lsuG, Mir.varM, Mir.conM, Mir.op2M, Mir.op1M, Mir.tstM, Mir.andM, Mir.orM, Mir.notM, Mir.andT, Mir.orT, Mir.notT, Mir.iteM, Mir.chM, Mir.biM, Mir.isM, Mir.callM, Mir.callC, Mir.callN, Mir.argsM, Mir.O.bind, Mir.rd, Mir.rds, Mir.pures, Mir.tupM, Mir.lstM, Mir.nlsM, Mir.slM, Mir.noP, Mir.someP, Mir.slG, Mir.lcM, Mir.nlcM, Mir.wipeE, Mir.seqI, Mir.rng1I, Mir.rng2I, Mir.zpBI, Mir.seqU, Mir.strI, Mir.forM, Mir.setM, Mir.setC, Mir.parsM, Mir.setUs, Mir.meM, Mir.joinG, Mir.splG, Mir.lenG, Mir.intG, Mir.strG, Mir.listG, Mir.tupleG, Mir.isdic, Mir.isE, Mir.ixG, Mir.addG, Mir.subG, Mir.mulG, Mir.mulOk, Mir.fdivG, Mir.modG, Mir.powG, Mir.negG, Mir.ltG, Mir.leG, Mir.gtG, Mir.geG, Mir.isG, Mir.isNotG, Mir.isNon, Mir.env0, Mir.ins1, Mir.run0, Mir.run1, Mir.runN, Mir.frz, Mir.nxtM, Mir.unM, Mir.appM, Mir.isLst, Mir.kmIx, Mir.kmIn, Mir.scpM, Mir.lowU, Mir.lzpM, Mir.lixM, Mir.lixG, Mir.isLsU, Mir.tupC, Mir.wOf, Mir.frzW, Mir.frzC, Mir.dicM, Mir.nddM, Mir.callV, Mir.callM0, Mir.idxM, Mir.fndS, h1, h2]
    · simp [F__law_int, m__law_int, Mir.seqM, Mir.retM, Mir.retNM, Mir.drpM, Mir.asgM, Mir.ifM, Mir.toS, Mir.namG, Mir.tupG, Mir.allG, Mir.lsuG, Mir.varM, Mir.conM, Mir.op2M, Mir.op1M, Mir.tstM, Mir.andM, Mir.orM, Mir.notM, Mir.andT, Mir.orT, Mir.notT, Mir.iteM, Mir.chM, Mir.biM, Mir.isM, Mir.callM, Mir.callC, Mir.callN, Mir.argsM, Mir.O.bind, Mir.rd, Mir.rds, Mir.pures, Mir.tupM, Mir.lstM, Mir.nlsM, Mir.slM, Mir.noP, Mir.someP, Mir.slG, Mir.lcM, Mir.nlcM, Mir.wipeE, Mir.seqI, Mir.rng1I, Mir.rng2I, Mir.zpBI, Mir.seqU, Mir.strI, Mir.forM, Mir.setM, Mir.setC, Mir.parsM, Mir.setUs, Mir.meM, Mir.joinG, Mir.splG, Mir.lenG, Mir.intG, Mir.strG, Mir.listG, Mir.tupleG, Mir.isdic, Mir.isE, Mir.ixG, Mir.addG, Mir.subG, Mir.mulG, Mir.mulOk, Mir.fdivG, Mir.modG, Mir.powG, Mir.negG, Mir.ltG, Mir.leG, Mir.gtG, Mir.geG, Mir.isG, Mir.isNotG, Mir.isNon, Mir.env0, Mir.ins1, Mir.run0, Mir.run1, Mir.runN, Mir.frz, Mir.nxtM, Mir.unM, Mir.appM, Mir.isLst, Mir.kmIx, Mir.kmIn, Mir.scpM, Mir.lowU, Mir.lzpM, Mir.lixM, Mir.lixG, Mir.isLsU, Mir.tupC, Mir.wOf, Mir.frzW, Mir.frzC, Mir.dicM, Mir.nddM, Mir.callV, Mir.callM0, Mir.idxM, Mir.fndS, h1]
  | bl b => exact ⟨false, by simp [F_is_number, m_is_number, Mir.seqM, Mir.retM, Mir.retNM, Mir.drpM, Mir.asgM, Mir.ifM, Mir.toS, Mir.namG, Mir.tupG, Mir.allG, Mir.lsuG, Mir.varM, Mir.conM, Mir.op2M, Mir.op1M, Mir.tstM, Mir.andM, Mir.orM, Mir.notM, Mir.andT, Mir.orT, Mir.notT, Mir.iteM, Mir.chM, Mir.biM, Mir.isM, Mir.callM, Mir.callC, Mir.callN, Mir.argsM, Mir.O.bind, Mir.rd, Mir.rds, Mir.pures, Mir.tupM, Mir.lstM, Mir.nlsM, Mir.slM, Mir.noP, Mir.someP, Mir.slG, Mir.lcM, Mir.nlcM, Mir.wipeE, Mir.seqI, Mir.rng1I, Mir.rng2I, Mir.zpBI, Mir.seqU, Mir.strI, Mir.forM, Mir.setM, Mir.setC, Mir.parsM, Mir.setUs, Mir.meM, Mir.joinG, Mir.splG, Mir.lenG, Mir.intG, Mir.strG, Mir.listG, Mir.tupleG, Mir.isdic, Mir.isE, Mir.ixG, Mir.addG, Mir.subG, Mir.mulG, Mir.mulOk, Mir.fdivG, Mir.modG, Mir.powG, Mir.negG, Mir.ltG, Mir.leG, Mir.gtG, Mir.geG, Mir.isG, Mir.isNotG, Mir.isNon, Mir.env0, Mir.ins1, Mir.run0, Mir.run1, Mir.runN, Mir.frz, Mir.nxtM, Mir.unM, Mir.appM, Mir.isLst, Mir.kmIx, Mir.kmIn, Mir.scpM, Mir.lowU, Mir.lzpM, Mir.lixM, Mir.lixG, Mir.isLsU, Mir.tupC, Mir.wOf, Mir.frzW, Mir.frzC, Mir.dicM, Mir.nddM, Mir.callV, Mir.callM0, Mir.idxM, Mir.fndS], by simp [F__law_int, m__law_int, Mir.seqM, Mir.retM, Mir.retNM, Mir.drpM, Mir.asgM, Mir.ifM, Mir.toS, Mir.namG, Mir.tupG, Mir.allG, Mir.lsuG, Mir.varM, Mir.conM, Mir.op2M, Mir.op1M, Mir.tstM, Mir.andM, Mir.orM, Mir.notM, Mir.andT, Mir.orT, Mir.notT, Mir.iteM, Mir.chM, Mir.biM, Mir.isM, Mir.callM, Mir.callC, Mir.callN, Mir.argsM, Mir.O.bind, Mir.rd, Mir.rds, Mir.pures, Mir.tupM, Mir.lstM, Mir.nlsM, Mir.slM, Mir.noP, Mir.someP, Mir.slG, Mir.lcM, Mir.nlcM, Mir.wipeE, Mir.seqI, Mir.rng1I, Mir.rng2I, Mir.zpBI, Mir.seqU, Mir.strI, Mir.forM, Mir.setM, Mir.setC, Mir.parsM, Mir.setUs, Mir.meM, Mir.joinG, Mir.splG, Mir.lenG, Mir.intG, Mir.strG, Mir.listG, Mir.tupleG, Mir.isdic, Mir.isE, Mir.ixG, Mir.addG, Mir.subG, Mir.mulG, Mir.mulOk, Mir.fdivG, Mir.modG, Mir.powG, Mir.negG, Mir.ltG, Mir.leG, Mir.gtG, Mir.geG, Mir.isG, Mir.isNotG, Mir.isNon, Mir.env0, Mir.ins1, Mir.run0, Mir.run1, Mir.runN, Mir.frz, Mir.nxtM, Mir.unM, Mir.appM, Mir.isLst, Mir.kmIx, Mir.kmIn, Mir.scpM, Mir.lowU, Mir.lzpM, Mir.lixM, Mir.lixG, Mir.isLsU, Mir.tupC, Mir.wOf, Mir.frzW, Mir.frzC, Mir.dicM, Mir.nddM, Mir.callV, Mir.callM0, Mir.idxM, Mir.fndS]⟩
  | non => exact ⟨false, by simp [F_is_number, m_is_number, Mir.seqM, Mir.retM, Mir.retNM, Mir.drpM, Mir.asgM, Mir.ifM, Mir.toS, Mir.namG, Mir.tupG, Mir.allG, Mir.lsuG, Mir.varM, Mir.conM, Mir.op2M, Mir.op1M, Mir.tstM, Mir.andM, Mir.orM, Mir.notM, Mir.andT, Mir.orT, Mir.notT, Mir.iteM, Mir.chM, Mir.biM, Mir.isM, Mir.callM, Mir.callC, Mir.callN, Mir.argsM, Mir.O.bind, Mir.rd, Mir.rds, Mir.pures, Mir.tupM, Mir.lstM, Mir.nlsM, Mir.slM, Mir.noP, Mir.someP, Mir.slG, Mir.lcM, Mir.nlcM, Mir.wipeE, Mir.seqI, Mir.rng1I, Mir.rng2I, Mir.zpBI, Mir.seqU, Mir.strI, Mir.forM, Mir.setM, Mir.setC, Mir.parsM, Mir.setUs, Mir.meM, Mir.joinG, Mir.splG, Mir.lenG, Mir.intG, Mir.strG, Mir.listG, Mir.tupleG, Mir.isdic, Mir.isE, Mir.ixG, Mir.addG, Mir.subG, Mir.mulG, Mir.mulOk, Mir.fdivG, Mir.modG, Mir.powG, Mir.negG, Mir.ltG, Mir.leG, Mir.gtG, Mir.geG, Mir.isG, Mir.isNotG, Mir.isNon, Mir.env0, Mir.ins1, Mir.run0, Mir.run1, Mir.runN, Mir.frz, Mir.nxtM, Mir.unM, Mir.appM, Mir.isLst, Mir.kmIx, Mir.kmIn, Mir.scpM, Mir.lowU, Mir.lzpM, Mir.lixM, Mir.lixG, Mir.isLsU, Mir.tupC, Mir.wOf, Mir.frzW, Mir.frzC, Mir.dicM, Mir.nddM, Mir.callV, Mir.callM0, Mir.idxM, Mir.fndS], by simp [F__law_int, m__law_int, Mir.seqM, Mir.retM, Mir.retNM, Mir.drpM, Mir.asgM, Mir.ifM, Mir.toS, Mir.namG, Mir.tupG, Mir.allG, Mir.lsuG, Mir.varM, Mir.conM, Mir.op2M, Mir.op1M, Mir.tstM, Mir.andM, Mir.orM, Mir.notM, Mir.andT, Mir.orT, Mir.notT, Mir.iteM, Mir.chM, Mir.biM, Mir.isM, Mir.callM, Mir.callC, Mir.callN, Mir.argsM, Mir.O.bind, Mir.rd, Mir.rds, Mir.pures, Mir.tupM, Mir.lstM, Mir.nlsM, Mir.slM, Mir.noP, Mir.someP, Mir.slG, Mir.lcM, Mir.nlcM, Mir.wipeE, Mir.seqI, Mir.rng1I, Mir.rng2I, Mir.zpBI, Mir.seqU, Mir.strI, Mir.forM, Mir.setM, Mir.setC, Mir.parsM, Mir.setUs, Mir.meM, Mir.joinG, Mir.splG, Mir.lenG, Mir.intG, Mir.strG, Mir.listG, Mir.tupleG, Mir.isdic, Mir.isE, Mir.ixG, Mir.addG, Mir.subG, Mir.mulG, Mir.mulOk, Mir.fdivG, Mir.modG, Mir.powG, Mir.negG, Mir.ltG, Mir.leG, Mir.gtG, Mir.geG, Mir.isG, Mir.isNotG, Mir.isNon, Mir.env0, Mir.ins1, Mir.run0, Mir.run1, Mir.runN, Mir.frz, Mir.nxtM, Mir.unM, Mir.appM, Mir.isLst, Mir.kmIx, Mir.kmIn, Mir.scpM, Mir.lowU, Mir.lzpM, Mir.lixM, Mir.lixG, Mir.isLsU, Mir.tupC, Mir.wOf, Mir.frzW, Mir.frzC, Mir.dicM, Mir.nddM, Mir.callV, Mir.callM0, Mir.idxM, Mir.fndS]⟩
  | str x => exact ⟨false, by simp [F_is_number, m_is_number, Mir.seqM, Mir.retM, Mir.retNM, Mir.drpM, Mir.asgM, Mir.ifM, Mir.toS, Mir.namG, Mir.tupG, Mir.allG, Mir.lsuG, Mir.varM, Mir.conM, Mir.op2M, Mir.op1M, Mir.tstM, Mir.andM, Mir.orM, Mir.notM, Mir.andT, Mir.orT, Mir.notT, Mir.iteM, Mir.chM, Mir.biM, Mir.isM, Mir.callM, Mir.callC, Mir.callN, Mir.argsM, Mir.O.bind, Mir.rd, Mir.rds, Mir.pures, Mir.tupM, Mir.lstM, Mir.nlsM, Mir.slM, Mir.noP, Mir.someP, Mir.slG, Mir.lcM, Mir.nlcM, Mir.wipeE, Mir.seqI, Mir.rng1I, Mir.rng2I, Mir.zpBI, Mir.seqU, Mir.strI, Mir.forM, Mir.setM, Mir.setC, Mir.parsM, Mir.setUs, Mir.meM, Mir.joinG, Mir.splG, Mir.lenG, Mir.intG, Mir.strG, Mir.listG, Mir.tupleG, Mir.isdic, Mir.isE, Mir.ixG, Mir.addG, Mir.subG, Mir.mulG, Mir.mulOk, Mir.fdivG, Mir.modG, Mir.powG, Mir.negG, Mir.ltG, Mir.leG, Mir.gtG, Mir.geG, Mir.isG, Mir.isNotG, Mir.isNon, Mir.env0, Mir.ins1, Mir.run0, Mir.run1, Mir.runN, Mir.frz, Mir.nxtM, Mir.unM, Mir.appM, Mir.isLst, Mir.kmIx, Mir.kmIn, Mir.scpM, Mir.lowU, Mir.lzpM, Mir.lixM, Mir.lixG, Mir.isLsU, Mir.tupC, Mir.wOf, Mir.frzW, Mir.frzC, Mir.dicM, Mir.nddM, Mir.callV, Mir.callM0, Mir.idxM, Mir.fndS], by simp [F__law_int, m__law_int, Mir.seqM, Mir.retM, Mir.retNM, Mir.drpM, Mir.asgM, Mir.ifM, Mir.toS, Mir.namG, Mir.tupG, Mir.allG, Mir.lsuG, Mir.varM, Mir.conM, Mir.op2M, Mir.op1M, Mir.tstM, Mir.andM, Mir.orM, Mir.notM, Mir.andT, Mir.orT, Mir.notT, Mir.iteM, Mir.chM, Mir.biM, Mir.isM, Mir.callM, Mir.callC, Mir.callN, Mir.argsM, Mir.O.bind, Mir.rd, Mir.rds, Mir.pures, Mir.tupM, Mir.lstM, Mir.nlsM, Mir.slM, Mir.noP, Mir.someP, Mir.slG, Mir.lcM, Mir.nlcM, Mir.wipeE, Mir.seqI, Mir.rng1I, Mir.rng2I, Mir.zpBI, Mir.seqU, Mir.strI, Mir.forM, Mir.setM, Mir.setC, Mir.parsM, Mir.setUs, Mir.meM, Mir.joinG, Mir.splG, Mir.lenG, Mir.intG, Mir.strG, Mir.listG, Mir.tupleG, Mir.isdic, Mir.isE, Mir.ixG, Mir.addG, Mir.subG, Mir.mulG, Mir.mulOk, Mir.fdivG, Mir.modG, Mir.powG, Mir.negG, Mir.ltG, Mir.leG, Mir.gtG, Mir.geG, Mir.isG, Mir.isNotG, Mir.isNon, Mir.env0, Mir.ins1, Mir.run0, Mir.run1, Mir.runN, Mir.frz, Mir.nxtM, Mir.unM, Mir.appM, Mir.isLst, Mir.kmIx, Mir.kmIn, Mir.scpM, Mir.lowU, Mir.lzpM, Mir.lixM, Mir.lixG, Mir.isLsU, Mir.tupC, Mir.wOf, Mir.frzW, Mir.frzC, Mir.dicM, Mir.nddM, Mir.callV, Mir.callM0, Mir.idxM, Mir.fndS]⟩
  | tup x => exact ⟨false, by simp [F_is_number, m_is_number, Mir.seqM, Mir.retM, Mir.retNM, Mir.drpM, Mir.asgM, Mir.ifM, Mir.toS, Mir.namG, Mir.tupG, Mir.allG, Mir.lsuG, Mir.varM, Mir.conM, Mir.op2M, Mir.op1M, Mir.tstM, Mir.andM, Mir.orM, Mir.notM, Mir.andT, Mir.orT, Mir.notT, Mir.iteM, Mir.chM, Mir.biM, Mir.isM, Mir.callM, Mir.callC, Mir.callN, Mir.argsM, Mir.O.bind, Mir.rd, Mir.rds, Mir.pures, Mir.tupM, Mir.lstM, Mir.nlsM, Mir.slM, Mir.noP, Mir.someP, Mir.slG, Mir.lcM, Mir.nlcM, Mir.wipeE, Mir.seqI, Mir.rng1I, Mir.rng2I, Mir.zpBI, Mir.seqU, Mir.strI, Mir.forM, Mir.setM, Mir.setC, Mir.parsM, Mir.setUs, Mir.meM, Mir.joinG, Mir.splG, Mir.lenG, Mir.intG, Mir.strG, Mir.listG, Mir.tupleG, Mir.isdic, Mir.isE, Mir.ixG, Mir.addG, Mir.subG, Mir.mulG, Mir.mulOk, Mir.fdivG, Mir.modG, Mir.powG, Mir.negG, Mir.ltG, Mir.leG, Mir.gtG, Mir.geG, Mir.isG, Mir.isNotG, Mir.isNon, Mir.env0, Mir.ins1, Mir.run0, Mir.run1, Mir.runN, Mir.frz, Mir.nxtM, Mir.unM, Mir.appM, Mir.isLst, Mir.kmIx, Mir.kmIn, Mir.scpM, Mir.lowU, Mir.lzpM, Mir.lixM, Mir.lixG, Mir.isLsU, Mir.tupC, Mir.wOf, Mir.frzW, Mir.frzC, Mir.dicM, Mir.nddM, Mir.callV, Mir.callM0, Mir.idxM, Mir.fndS], by simp [F__law_int, m__law_int, Mir.seqM, Mir.retM, Mir.retNM, Mir.drpM, Mir.asgM, Mir.ifM, Mir.toS, Mir.namG, Mir.tupG, Mir.allG, Mir.lsuG, Mir.varM, Mir.conM, Mir.op2M, Mir.op1M, Mir.tstM, Mir.andM, Mir.orM, Mir.notM, Mir.andT, Mir.orT, Mir.notT, Mir.iteM, Mir.chM, Mir.biM, Mir.isM, Mir.callM, Mir.callC, Mir.callN, Mir.argsM, Mir.O.bind, Mir.rd, Mir.rds, Mir.pures, Mir.tupM, Mir.lstM, Mir.nlsM, Mir.slM, Mir.noP, Mir.someP, Mir.slG, Mir.lcM, Mir.nlcM, Mir.wipeE, Mir.seqI, Mir.rng1I, Mir.rng2I, Mir.zpBI, Mir.seqU, Mir.strI, Mir.forM, Mir.setM, Mir.setC, Mir.parsM, Mir.setUs, Mir.meM, Mir.joinG, Mir.splG, Mir.lenG, Mir.intG, Mir.strG, Mir.listG, Mir.tupleG, Mir.isdic, Mir.isE, Mir.ixG, Mir.addG, Mir.subG, Mir.mulG, Mir.mulOk, Mir.fdivG, Mir.modG, Mir.powG, Mir.negG, Mir.ltG, Mir.leG, Mir.gtG, Mir.geG, Mir.isG, Mir.isNotG, Mir.isNon, Mir.env0, Mir.ins1, Mir.run0, Mir.run1, Mir.runN, Mir.frz, Mir.nxtM, Mir.unM, Mir.appM, Mir.isLst, Mir.kmIx, Mir.kmIn, Mir.scpM, Mir.lowU, Mir.lzpM, Mir.lixM, Mir.lixG, Mir.isLsU, Mir.tupC, Mir.wOf, Mir.frzW, Mir.frzC, Mir.dicM, Mir.nddM, Mir.callV, Mir.callM0, Mir.idxM, Mir.fndS]⟩
  | lst x => exact ⟨false, by simp [F_is_number, m_is_number, Mir.seqM, Mir.retM, Mir.retNM, Mir.drpM, Mir.asgM, Mir.ifM, Mir.toS, Mir.namG, Mir.tupG, Mir.allG, Mir.lsuG, Mir.varM, Mir.conM, Mir.op2M, Mir.op1M, Mir.tstM, Mir.andM, Mir.orM, Mir.notM, Mir.andT, Mir.orT, Mir.notT, Mir.iteM, Mir.chM, Mir.biM, Mir.isM, Mir.callM, Mir.callC, Mir.callN, Mir.argsM, Mir.O.bind, Mir.rd, Mir.rds, Mir.pures, Mir.tupM, Mir.lstM, Mir.nlsM, Mir.slM, Mir.noP, Mir.someP, Mir.slG, Mir.lcM, Mir.nlcM, Mir.wipeE, Mir.seqI, Mir.rng1I, Mir.rng2I, Mir.zpBI, Mir.seqU, Mir.strI, Mir.forM, Mir.setM, Mir.setC, Mir.parsM, Mir.setUs, Mir.meM, Mir.joinG, Mir.splG, Mir.lenG, Mir.intG, Mir.strG, Mir.listG, Mir.tupleG, Mir.isdic, Mir.isE, Mir.ixG, Mir.addG, Mir.subG, Mir.mulG, Mir.mulOk, Mir.fdivG, Mir.modG, Mir.powG, Mir.negG, Mir.ltG, Mir.leG, Mir.gtG, Mir.geG, Mir.isG, Mir.isNotG, Mir.isNon, Mir.env0, Mir.ins1, Mir.run0, Mir.run1, Mir.runN, Mir.frz, Mir.nxtM, Mir.unM, Mir.appM, Mir.isLst, Mir.kmIx, Mir.kmIn, Mir.scpM, Mir.lowU, Mir.lzpM, Mir.lixM, Mir.lixG, Mir.isLsU, Mir.tupC, Mir.wOf, Mir.frzW, Mir.frzC, Mir.dicM, Mir.nddM, Mir.callV, Mir.callM0, Mir.idxM, Mir.fndS], by simp [F__law_int, m__law_int, Mir.seqM, Mir.retM, Mir.retNM, Mir.drpM, Mir.asgM, Mir.ifM, Mir.toS, Mir.namG, Mir.tupG, Mir.allG, Mir.lsuG, Mir.varM, Mir.conM, Mir.op2M, Mir.op1M, Mir.tstM, Mir.andM, Mir.orM, Mir.notM, Mir.andT, Mir.orT, Mir.notT, Mir.iteM, Mir.chM, Mir.biM, Mir.isM, Mir.callM, Mir.callC, Mir.callN, Mir.argsM, Mir.O.bind, Mir.rd, Mir.rds, Mir.pures, Mir.tupM, Mir.lstM, Mir.nlsM, Mir.slM, Mir.noP, Mir.someP, Mir.slG, Mir.lcM, Mir.nlcM, Mir.wipeE, Mir.seqI, Mir.rng1I, Mir.rng2I, Mir.zpBI, Mir.seqU, Mir.strI, Mir.forM, Mir.setM, Mir.setC, Mir.parsM, Mir.setUs, Mir.meM, Mir.joinG, Mir.splG, Mir.lenG, Mir.intG, Mir.strG, Mir.listG, Mir.tupleG, Mir.isdic, Mir.isE, Mir.ixG, Mir.addG, Mir.subG, Mir.mulG, Mir.mulOk, Mir.fdivG, Mir.modG, Mir.powG, Mir.negG, Mir.ltG, Mir.leG, Mir.gtG, Mir.geG, Mir.isG, Mir.isNotG, Mir.isNon, Mir.env0, Mir.ins1, Mir.run0, Mir.run1, Mir.runN, Mir.frz, Mir.nxtM, Mir.unM, Mir.appM, Mir.isLst, Mir.kmIx, Mir.kmIn, Mir.scpM, Mir.lowU, Mir.lzpM, Mir.lixM, Mir.lixG, Mir.isLsU, Mir.tupC, Mir.wOf, Mir.frzW, Mir.frzC, Mir.dicM, Mir.nddM, Mir.callV, Mir.callM0, Mir.idxM, Mir.fndS]⟩
  | dic _ _ _ => simp [isdic] at hdi
  | scr _ => cases n <;> simp [pl] at hp
theorem cut1 (ds : List D) : slG (.tup ds) (some 1) none = some (.tup (ds.drop 1)) := by
  cases ds with
  | nil => rfl
  | cons d ds =>
    simp only [slG, cutL, HT.sIx, List.length_cons]
    rw [if_neg (by omega)]
    have h1 : min ((1 : Int).toNat) (ds.length + 1) = 1 := by
      have : (1 : Int).toNat = 1 := rfl
      omega
    rw [h1]
    simp
theorem part_both {n L : Nat} {p : D} (hp : pl n L p = true) (hn : n ≤ 64) {kd v : D} {m : Nat} (hk : lenG [kd] = some (.int (m : Nat))) (hv : ixG v (.int 0) = some kd) :
    ∃ b : Bool, F_is_stretch_of [kd, p, .int 4] = .ok (.bl b) ∧ B__law_is_road_1 [some (.d v), some (.d p), none] [] = if b = true then .nx [some (.d v), some (.d p), none] [] else .rt (.d (.bl false)) [] := by
  have hdi := isdic_pl hp
  cases ht : isE .tuple p with
  | false =>
    refine ⟨false, ?_, ?_⟩
    · simp [F_is_stretch_of, m_is_stretch_of, Mir.seqM, Mir.retM, Mir.retNM, Mir.drpM, Mir.asgM, Mir.ifM, Mir.toS, Mir.namG, Mir.tupG, Mir.allG, Mir.lsuG, Mir.varM, Mir.conM, Mir.op2M, Mir.op1M, Mir.tstM, Mir.andM, Mir.orM, Mir.notM, Mir.andT, Mir.orT, Mir.notT, Mir.iteM, Mir.chM, Mir.biM, Mir.isM, Mir.callM, Mir.callC, Mir.callN, Mir.argsM, Mir.O.bind, Mir.rd, Mir.rds, Mir.pures, Mir.tupM, Mir.lstM, Mir.nlsM, Mir.slM, Mir.noP, Mir.someP, Mir.slG, Mir.lcM, Mir.nlcM, Mir.wipeE, Mir.seqI, Mir.rng1I, Mir.rng2I, Mir.zpBI, Mir.seqU, Mir.strI, Mir.forM, Mir.setM, Mir.setC, Mir.parsM, Mir.setUs, Mir.meM, Mir.joinG, Mir.splG, Mir.lenG, Mir.intG, Mir.strG, Mir.listG, Mir.tupleG, Mir.ixG, Mir.addG, Mir.subG, Mir.mulG, Mir.mulOk, Mir.fdivG, Mir.modG, Mir.powG, Mir.negG, Mir.ltG, Mir.leG, Mir.gtG, Mir.geG, Mir.isG, Mir.isNotG, Mir.isNon, Mir.env0, Mir.ins1, Mir.run0, Mir.run1, Mir.runN, Mir.frz, Mir.nxtM, Mir.unM, Mir.appM, Mir.isLst, Mir.kmIx, Mir.kmIn, Mir.scpM, Mir.lowU, Mir.lzpM, Mir.lixM, Mir.lixG, Mir.isLsU, Mir.tupC, Mir.wOf, Mir.frzW, Mir.frzC, Mir.dicM, Mir.nddM, Mir.callV, Mir.callM0, Mir.idxM, Mir.fndS, hdi, ht]
    · simp [B__law_is_road_1, Mir.seqM, Mir.retM, Mir.retNM, Mir.drpM, Mir.asgM, Mir.ifM, Mir.toS, Mir.namG, Mir.tupG, Mir.allG, Mir.lsuG, Mir.varM, Mir.conM, Mir.op2M, Mir.op1M, Mir.tstM, Mir.andM, Mir.orM, Mir.notM, Mir.andT, Mir.orT, Mir.notT, Mir.iteM, Mir.chM, Mir.biM, Mir.isM, Mir.callM, Mir.callC, Mir.callN, Mir.argsM, Mir.O.bind, Mir.rd, Mir.rds, Mir.pures, Mir.tupM, Mir.lstM, Mir.nlsM, Mir.slM, Mir.noP, Mir.someP, Mir.slG, Mir.lcM, Mir.nlcM, Mir.wipeE, Mir.seqI, Mir.rng1I, Mir.rng2I, Mir.zpBI, Mir.seqU, Mir.strI, Mir.forM, Mir.setM, Mir.setC, Mir.parsM, Mir.setUs, Mir.meM, Mir.joinG, Mir.splG, Mir.lenG, Mir.intG, Mir.strG, Mir.listG, Mir.tupleG, Mir.ixG, Mir.addG, Mir.subG, Mir.mulG, Mir.mulOk, Mir.fdivG, Mir.modG, Mir.powG, Mir.negG, Mir.ltG, Mir.leG, Mir.gtG, Mir.geG, Mir.isG, Mir.isNotG, Mir.isNon, Mir.env0, Mir.ins1, Mir.run0, Mir.run1, Mir.runN, Mir.frz, Mir.nxtM, Mir.unM, Mir.appM, Mir.isLst, Mir.kmIx, Mir.kmIn, Mir.scpM, Mir.lowU, Mir.lzpM, Mir.lixM, Mir.lixG, Mir.isLsU, Mir.tupC, Mir.wOf, Mir.frzW, Mir.frzC, Mir.dicM, Mir.nddM, Mir.callV, Mir.callM0, Mir.idxM, Mir.fndS, hdi, ht]
  | true =>
    obtain ⟨ds, rfl⟩ := tup_of ht
    obtain ⟨n', rfl⟩ := succ_of hp
    obtain ⟨hlen, hall⟩ := pl_tup.mp hp
    obtain ⟨f, hf⟩ := pick_all fun d hd => num_both (hall d hd) ((m : Int) - 1)
    have hl := lenT ds
    by_cases h4 : ds.length ≤ 4
    · have h4' : ¬ (4 : Int) < (ds.length : Int) := by omega
      have hC : C_is_stretch_of_1 [some (.d kd), some (.d (.tup ds)), some (.d (.int 4)), none] [] = .ok (.d (.lst (ds.map fun d => D.bl (f d)))) [] :=
        lcM_rows (fun d => D.bl (f d)) (by simp [Mir.seqM, Mir.retM, Mir.retNM, Mir.drpM, Mir.asgM, Mir.ifM, Mir.toS, Mir.namG, Mir.tupG, Mir.allG, Mir.lsuG, Mir.varM, Mir.conM, Mir.op2M, Mir.op1M, Mir.tstM, Mir.andM, Mir.orM, Mir.notM, Mir.andT, Mir.orT, Mir.notT, Mir.iteM, Mir.chM, Mir.biM, Mir.isM, Mir.callM, Mir.callC, Mir.callN, Mir.argsM, Mir.O.bind, Mir.rd, Mir.rds, Mir.pures, Mir.tupM, Mir.lstM, Mir.nlsM, Mir.slM, Mir.noP, Mir.someP, Mir.slG, Mir.lcM, Mir.nlcM, Mir.wipeE, Mir.seqI, Mir.rng1I, Mir.rng2I, Mir.zpBI, Mir.seqU, Mir.strI, Mir.forM, Mir.setM, Mir.setC, Mir.parsM, Mir.setUs, Mir.meM, Mir.joinG, Mir.splG, Mir.lenG, Mir.intG, Mir.strG, Mir.listG, Mir.tupleG, Mir.isdic, Mir.isE, Mir.ixG, Mir.addG, Mir.subG, Mir.mulG, Mir.mulOk, Mir.fdivG, Mir.modG, Mir.powG, Mir.negG, Mir.ltG, Mir.leG, Mir.gtG, Mir.geG, Mir.isG, Mir.isNotG, Mir.isNon, Mir.env0, Mir.ins1, Mir.run0, Mir.run1, Mir.runN, Mir.frz, Mir.nxtM, Mir.unM, Mir.appM, Mir.isLst, Mir.kmIx, Mir.kmIn, Mir.scpM, Mir.lowU, Mir.lzpM, Mir.lixM, Mir.lixG, Mir.isLsU, Mir.tupC, Mir.wOf, Mir.frzW, Mir.frzC, Mir.dicM, Mir.nddM, Mir.callV, Mir.callM0, Mir.idxM, Mir.fndS]) (big_of (by omega)) fun d hd => ⟨_, rfl, rfl, by simp [Mir.seqM, Mir.retM, Mir.retNM, Mir.drpM, Mir.asgM, Mir.ifM, Mir.toS, Mir.namG, Mir.tupG, Mir.allG, Mir.lsuG, Mir.varM, Mir.conM, Mir.op2M, Mir.op1M, Mir.tstM, Mir.andM, Mir.orM, Mir.notM, Mir.andT, Mir.orT, Mir.notT, Mir.iteM, Mir.chM, Mir.biM, Mir.isM, Mir.callM, Mir.callC, Mir.callN, Mir.argsM, Mir.O.bind, Mir.rd, Mir.rds, Mir.pures, Mir.tupM, Mir.lstM, Mir.nlsM, Mir.slM, Mir.noP, Mir.someP, Mir.slG, Mir.lcM, Mir.nlcM, Mir.wipeE, Mir.seqI, Mir.rng1I, Mir.rng2I, Mir.zpBI, Mir.seqU, Mir.strI, Mir.forM, Mir.setM, Mir.setC, Mir.parsM, Mir.setUs, Mir.meM, Mir.joinG, Mir.splG, Mir.intG, Mir.strG, Mir.listG, Mir.tupleG, Mir.isdic, Mir.isE, Mir.ixG, Mir.addG, Mir.subG, Mir.mulG, Mir.mulOk, Mir.fdivG, Mir.modG, Mir.powG, Mir.negG, Mir.ltG, Mir.leG, Mir.gtG, Mir.geG, Mir.isG, Mir.isNotG, Mir.isNon, Mir.env0, Mir.ins1, Mir.run0, Mir.run1, Mir.runN, Mir.frz, Mir.nxtM, Mir.unM, Mir.appM, Mir.isLst, Mir.kmIx, Mir.kmIn, Mir.scpM, Mir.lowU, Mir.lzpM, Mir.lixM, Mir.lixG, Mir.isLsU, Mir.tupC, Mir.wOf, Mir.frzW, Mir.frzC, Mir.dicM, Mir.nddM, Mir.callV, Mir.callM0, Mir.idxM, Mir.fndS, hk, (hf d hd).1]⟩
      have hCL : C__law_is_road_1 [some (.d v), some (.d (.tup ds)), none] [] = .ok (.d (.lst ((ds.filter fun d => !f d).map fun d => d))) [] :=
        lcM_fil (fun d => !f d) (fun d => d) (by simp [Mir.seqM, Mir.retM, Mir.retNM, Mir.drpM, Mir.asgM, Mir.ifM, Mir.toS, Mir.namG, Mir.tupG, Mir.allG, Mir.lsuG, Mir.varM, Mir.conM, Mir.op2M, Mir.op1M, Mir.tstM, Mir.andM, Mir.orM, Mir.notM, Mir.andT, Mir.orT, Mir.notT, Mir.iteM, Mir.chM, Mir.biM, Mir.isM, Mir.callM, Mir.callC, Mir.callN, Mir.argsM, Mir.O.bind, Mir.rd, Mir.rds, Mir.pures, Mir.tupM, Mir.lstM, Mir.nlsM, Mir.slM, Mir.noP, Mir.someP, Mir.slG, Mir.lcM, Mir.nlcM, Mir.wipeE, Mir.seqI, Mir.rng1I, Mir.rng2I, Mir.zpBI, Mir.seqU, Mir.strI, Mir.forM, Mir.setM, Mir.setC, Mir.parsM, Mir.setUs, Mir.meM, Mir.joinG, Mir.splG, Mir.lenG, Mir.intG, Mir.strG, Mir.listG, Mir.tupleG, Mir.isdic, Mir.isE, Mir.ixG, Mir.addG, Mir.subG, Mir.mulG, Mir.mulOk, Mir.fdivG, Mir.modG, Mir.powG, Mir.negG, Mir.ltG, Mir.leG, Mir.gtG, Mir.geG, Mir.isG, Mir.isNotG, Mir.isNon, Mir.env0, Mir.ins1, Mir.run0, Mir.run1, Mir.runN, Mir.frz, Mir.nxtM, Mir.unM, Mir.appM, Mir.isLst, Mir.kmIx, Mir.kmIn, Mir.scpM, Mir.lowU, Mir.lzpM, Mir.lixM, Mir.lixG, Mir.isLsU, Mir.tupC, Mir.wOf, Mir.frzW, Mir.frzC, Mir.dicM, Mir.nddM, Mir.callV, Mir.callM0, Mir.idxM, Mir.fndS]) (big_of (by omega)) fun d hd => ⟨_, rfl, by simp [Mir.seqM, Mir.retM, Mir.retNM, Mir.drpM, Mir.asgM, Mir.ifM, Mir.toS, Mir.namG, Mir.tupG, Mir.allG, Mir.lsuG, Mir.varM, Mir.conM, Mir.op2M, Mir.op1M, Mir.tstM, Mir.andM, Mir.orM, Mir.notM, Mir.andT, Mir.orT, Mir.notT, Mir.iteM, Mir.chM, Mir.biM, Mir.isM, Mir.callM, Mir.callC, Mir.callN, Mir.argsM, Mir.O.bind, Mir.rd, Mir.rds, Mir.pures, Mir.tupM, Mir.lstM, Mir.nlsM, Mir.slM, Mir.noP, Mir.someP, Mir.slG, Mir.lcM, Mir.nlcM, Mir.wipeE, Mir.seqI, Mir.rng1I, Mir.rng2I, Mir.zpBI, Mir.seqU, Mir.strI, Mir.forM, Mir.setM, Mir.setC, Mir.parsM, Mir.setUs, Mir.meM, Mir.joinG, Mir.splG, Mir.intG, Mir.strG, Mir.listG, Mir.tupleG, Mir.isdic, Mir.isE, Mir.addG, Mir.subG, Mir.mulG, Mir.mulOk, Mir.fdivG, Mir.modG, Mir.powG, Mir.negG, Mir.ltG, Mir.leG, Mir.gtG, Mir.geG, Mir.isG, Mir.isNotG, Mir.isNon, Mir.env0, Mir.ins1, Mir.run0, Mir.run1, Mir.runN, Mir.frz, Mir.nxtM, Mir.unM, Mir.appM, Mir.isLst, Mir.kmIx, Mir.kmIn, Mir.scpM, Mir.lowU, Mir.lzpM, Mir.lixM, Mir.lixG, Mir.isLsU, Mir.tupC, Mir.wOf, Mir.frzW, Mir.frzC, Mir.dicM, Mir.nddM, Mir.callV, Mir.callM0, Mir.idxM, Mir.fndS, hv, hk, (hf d hd).2], fun _ => by simp [Mir.seqM, Mir.retM, Mir.retNM, Mir.drpM, Mir.asgM, Mir.ifM, Mir.toS, Mir.namG, Mir.tupG, Mir.allG, Mir.lsuG, Mir.varM, Mir.conM, Mir.op2M, Mir.op1M, Mir.tstM, Mir.andM, Mir.orM, Mir.notM, Mir.andT, Mir.orT, Mir.notT, Mir.iteM, Mir.chM, Mir.biM, Mir.isM, Mir.callM, Mir.callC, Mir.callN, Mir.argsM, Mir.O.bind, Mir.rd, Mir.rds, Mir.pures, Mir.tupM, Mir.lstM, Mir.nlsM, Mir.slM, Mir.noP, Mir.someP, Mir.slG, Mir.lcM, Mir.nlcM, Mir.wipeE, Mir.seqI, Mir.rng1I, Mir.rng2I, Mir.zpBI, Mir.seqU, Mir.strI, Mir.forM, Mir.setM, Mir.setC, Mir.parsM, Mir.setUs, Mir.meM, Mir.joinG, Mir.splG, Mir.lenG, Mir.intG, Mir.strG, Mir.listG, Mir.tupleG, Mir.isdic, Mir.isE, Mir.ixG, Mir.addG, Mir.subG, Mir.mulG, Mir.mulOk, Mir.fdivG, Mir.modG, Mir.powG, Mir.negG, Mir.ltG, Mir.leG, Mir.gtG, Mir.geG, Mir.isG, Mir.isNotG, Mir.isNon, Mir.env0, Mir.ins1, Mir.run0, Mir.run1, Mir.runN, Mir.frz, Mir.nxtM, Mir.unM, Mir.appM, Mir.isLst, Mir.kmIx, Mir.kmIn, Mir.scpM, Mir.lowU, Mir.lzpM, Mir.lixM, Mir.lixG, Mir.isLsU, Mir.tupC, Mir.wOf, Mir.frzW, Mir.frzC, Mir.dicM, Mir.nddM, Mir.callV, Mir.callM0, Mir.idxM, Mir.fndS]⟩
      simp only [List.map_id'] at hCL
      have ha := all_bl f ds
      have pf : pl (n' + 1) L (.lst (ds.filter fun d => !f d)) = true := pl_lst.mpr ⟨Nat.le_trans (List.length_filter_le _ _) hlen, fun d hd => hall d (List.mem_filter.mp hd).1⟩
      have hne := ne_nilL pf hn
      have he : (ds.filter fun d => !f d).isEmpty = ds.all f := by
        rw [Bool.eq_iff_iff, List.isEmpty_iff, List.filter_eq_nil_iff, List.all_eq_true]
        simp
      rw [he] at hne
      refine ⟨ds.all f, ?_, ?_⟩
      · simp [F_is_stretch_of, m_is_stretch_of, Mir.seqM, Mir.retM, Mir.retNM, Mir.drpM, Mir.asgM, Mir.ifM, Mir.toS, Mir.namG, Mir.tupG, Mir.allG, Mir.lsuG, Mir.varM, Mir.conM, Mir.op2M, Mir.op1M, Mir.tstM, Mir.andM, Mir.orM, Mir.notM, Mir.andT, Mir.orT, Mir.notT, Mir.iteM, Mir.chM, Mir.biM, Mir.isM, Mir.callM, Mir.callC, Mir.callN, Mir.argsM, Mir.O.bind, Mir.rd, Mir.rds, Mir.pures, Mir.tupM, Mir.lstM, Mir.nlsM, Mir.slM, Mir.noP, Mir.someP, Mir.slG, Mir.lcM, Mir.nlcM, Mir.wipeE, Mir.seqI, Mir.rng1I, Mir.rng2I, Mir.zpBI, Mir.seqU, Mir.strI, Mir.forM, Mir.setM, Mir.setC, Mir.parsM, Mir.setUs, Mir.meM, Mir.joinG, Mir.splG, Mir.intG, Mir.strG, Mir.listG, Mir.tupleG, Mir.ixG, Mir.addG, Mir.subG, Mir.mulG, Mir.mulOk, Mir.fdivG, Mir.modG, Mir.powG, Mir.negG, Mir.ltG, Mir.leG, Mir.gtG, Mir.geG, Mir.isG, Mir.isNotG, Mir.isNon, Mir.env0, Mir.ins1, Mir.run0, Mir.run1, Mir.runN, Mir.frz, Mir.nxtM, Mir.unM, Mir.appM, Mir.isLst, Mir.kmIx, Mir.kmIn, Mir.scpM, Mir.lowU, Mir.lzpM, Mir.lixM, Mir.lixG, Mir.isLsU, Mir.tupC, Mir.wOf, Mir.frzW, Mir.frzC, Mir.dicM, Mir.nddM, Mir.callV, Mir.callM0, Mir.idxM, Mir.fndS, hdi, ht, hl, h4', hC, ha, -List.map_map]
      · cases hc : ds.all f <;> (rw [hc] at hne; simp [B__law_is_road_1, Mir.seqM, Mir.retM, Mir.retNM, Mir.drpM, Mir.asgM, Mir.ifM, Mir.toS, Mir.namG, Mir.tupG, Mir.allG, Mir.lsuG, Mir.varM, Mir.conM, Mir.op2M, Mir.op1M, Mir.tstM, Mir.andM, Mir.orM, Mir.notM, Mir.andT, Mir.orT, Mir.notT, Mir.iteM, Mir.chM, Mir.biM, Mir.isM, Mir.callM, Mir.callC, Mir.callN, Mir.argsM, Mir.O.bind, Mir.rd, Mir.rds, Mir.pures, Mir.tupM, Mir.lstM, Mir.nlsM, Mir.slM, Mir.noP, Mir.someP, Mir.slG, Mir.lcM, Mir.nlcM, Mir.wipeE, Mir.seqI, Mir.rng1I, Mir.rng2I, Mir.zpBI, Mir.seqU, Mir.strI, Mir.forM, Mir.setM, Mir.setC, Mir.parsM, Mir.setUs, Mir.meM, Mir.joinG, Mir.splG, Mir.intG, Mir.strG, Mir.listG, Mir.tupleG, Mir.ixG, Mir.addG, Mir.subG, Mir.mulG, Mir.mulOk, Mir.fdivG, Mir.modG, Mir.powG, Mir.negG, Mir.ltG, Mir.leG, Mir.gtG, Mir.geG, Mir.isG, Mir.isNotG, Mir.isNon, Mir.env0, Mir.ins1, Mir.run0, Mir.run1, Mir.runN, Mir.frz, Mir.nxtM, Mir.unM, Mir.appM, Mir.isLst, Mir.kmIx, Mir.kmIn, Mir.scpM, Mir.lowU, Mir.lzpM, Mir.lixM, Mir.lixG, Mir.isLsU, Mir.tupC, Mir.wOf, Mir.frzW, Mir.frzC, Mir.dicM, Mir.nddM, Mir.callV, Mir.callM0, Mir.idxM, Mir.fndS, hdi, ht, hl, h4', hCL, hne])
    · have h4' : (4 : Int) < (ds.length : Int) := by omega
      refine ⟨false, ?_, ?_⟩
      · simp [F_is_stretch_of, m_is_stretch_of, Mir.seqM, Mir.retM, Mir.retNM, Mir.drpM, Mir.asgM, Mir.ifM, Mir.toS, Mir.namG, Mir.tupG, Mir.allG, Mir.lsuG, Mir.varM, Mir.conM, Mir.op2M, Mir.op1M, Mir.tstM, Mir.andM, Mir.orM, Mir.notM, Mir.andT, Mir.orT, Mir.notT, Mir.iteM, Mir.chM, Mir.biM, Mir.isM, Mir.callM, Mir.callC, Mir.callN, Mir.argsM, Mir.O.bind, Mir.rd, Mir.rds, Mir.pures, Mir.tupM, Mir.lstM, Mir.nlsM, Mir.slM, Mir.noP, Mir.someP, Mir.slG, Mir.lcM, Mir.nlcM, Mir.wipeE, Mir.seqI, Mir.rng1I, Mir.rng2I, Mir.zpBI, Mir.seqU, Mir.strI, Mir.forM, Mir.setM, Mir.setC, Mir.parsM, Mir.setUs, Mir.meM, Mir.joinG, Mir.splG, Mir.intG, Mir.strG, Mir.listG, Mir.tupleG, Mir.ixG, Mir.addG, Mir.subG, Mir.mulG, Mir.mulOk, Mir.fdivG, Mir.modG, Mir.powG, Mir.negG, Mir.ltG, Mir.leG, Mir.gtG, Mir.geG, Mir.isG, Mir.isNotG, Mir.isNon, Mir.env0, Mir.ins1, Mir.run0, Mir.run1, Mir.runN, Mir.frz, Mir.nxtM, Mir.unM, Mir.appM, Mir.isLst, Mir.kmIx, Mir.kmIn, Mir.scpM, Mir.lowU, Mir.lzpM, Mir.lixM, Mir.lixG, Mir.isLsU, Mir.tupC, Mir.wOf, Mir.frzW, Mir.frzC, Mir.dicM, Mir.nddM, Mir.callV, Mir.callM0, Mir.idxM, Mir.fndS, hdi, ht, hl, h4']
      · simp [B__law_is_road_1, Mir.seqM, Mir.retM, Mir.retNM, Mir.drpM, Mir.asgM, Mir.ifM, Mir.toS, Mir.namG, Mir.tupG, Mir.allG, Mir.lsuG, Mir.varM, Mir.conM, Mir.op2M, Mir.op1M, Mir.tstM, Mir.andM, Mir.orM, Mir.notM, Mir.andT, Mir.orT, Mir.notT, Mir.iteM, Mir.chM, Mir.biM, Mir.isM, Mir.callM, Mir.callC, Mir.callN, Mir.argsM, Mir.O.bind, Mir.rd, Mir.rds, Mir.pures, Mir.tupM, Mir.lstM, Mir.nlsM, Mir.slM, Mir.noP, Mir.someP, Mir.slG, Mir.lcM, Mir.nlcM, Mir.wipeE, Mir.seqI, Mir.rng1I, Mir.rng2I, Mir.zpBI, Mir.seqU, Mir.strI, Mir.forM, Mir.setM, Mir.setC, Mir.parsM, Mir.setUs, Mir.meM, Mir.joinG, Mir.splG, Mir.intG, Mir.strG, Mir.listG, Mir.tupleG, Mir.ixG, Mir.addG, Mir.subG, Mir.mulG, Mir.mulOk, Mir.fdivG, Mir.modG, Mir.powG, Mir.negG, Mir.ltG, Mir.leG, Mir.gtG, Mir.geG, Mir.isG, Mir.isNotG, Mir.isNon, Mir.env0, Mir.ins1, Mir.run0, Mir.run1, Mir.runN, Mir.frz, Mir.nxtM, Mir.unM, Mir.appM, Mir.isLst, Mir.kmIx, Mir.kmIn, Mir.scpM, Mir.lowU, Mir.lzpM, Mir.lixM, Mir.lixG, Mir.isLsU, Mir.tupC, Mir.wOf, Mir.frzW, Mir.frzC, Mir.dicM, Mir.nddM, Mir.callV, Mir.callM0, Mir.idxM, Mir.fndS, hdi, ht, hl, h4']
theorem road_both {n L : Nat} {d : D} (hp : pl n L d = true) (hn : n ≤ 64) (hL : L ≤ 60) : ∃ b : Bool, F_is_road_of [d] = .ok (.bl b) ∧ F__law_is_road [d] = .ok (.bl b) := by
  have hdi := isdic_pl hp
  cases ht : isE .tuple d with
  | false =>
    refine ⟨false, ?_, ?_⟩
    · simp [F_is_road_of, m_is_road_of, Mir.seqM, Mir.retM, Mir.retNM, Mir.drpM, Mir.asgM, Mir.ifM, Mir.toS, Mir.namG, Mir.tupG, Mir.allG, Mir.lsuG, Mir.varM, Mir.conM, Mir.op2M, Mir.op1M, Mir.tstM, Mir.andM, Mir.orM, Mir.notM, Mir.andT, Mir.orT, Mir.notT, Mir.iteM, Mir.chM, Mir.biM, Mir.isM, Mir.callM, Mir.callC, Mir.callN, Mir.argsM, Mir.O.bind, Mir.rd, Mir.rds, Mir.pures, Mir.tupM, Mir.lstM, Mir.nlsM, Mir.slM, Mir.noP, Mir.someP, Mir.slG, Mir.lcM, Mir.nlcM, Mir.wipeE, Mir.seqI, Mir.rng1I, Mir.rng2I, Mir.zpBI, Mir.seqU, Mir.strI, Mir.forM, Mir.setM, Mir.setC, Mir.parsM, Mir.setUs, Mir.meM, Mir.joinG, Mir.splG, Mir.lenG, Mir.intG, Mir.strG, Mir.listG, Mir.tupleG, Mir.ixG, Mir.addG, Mir.subG, Mir.mulG, Mir.mulOk, Mir.fdivG, Mir.modG, Mir.powG, Mir.negG, Mir.ltG, Mir.leG, Mir.gtG, Mir.geG, Mir.isG, Mir.isNotG, Mir.isNon, Mir.env0, Mir.ins1, Mir.run0, Mir.run1, Mir.runN, Mir.frz, Mir.nxtM, Mir.unM, Mir.appM, Mir.isLst, Mir.kmIx, Mir.kmIn, Mir.scpM, Mir.lowU, Mir.lzpM, Mir.lixM, Mir.lixG, Mir.isLsU, Mir.tupC, Mir.wOf, Mir.frzW, Mir.frzC, Mir.dicM, Mir.nddM, Mir.callV, Mir.callM0, Mir.idxM, Mir.fndS, hdi, ht]
    · simp [F__law_is_road, m__law_is_road, Mir.seqM, Mir.retM, Mir.retNM, Mir.drpM, Mir.asgM, Mir.ifM, Mir.toS, Mir.namG, Mir.tupG, Mir.allG, Mir.lsuG, Mir.varM, Mir.conM, Mir.op2M, Mir.op1M, Mir.tstM, Mir.andM, Mir.orM, Mir.notM, Mir.andT, Mir.orT, Mir.notT, Mir.iteM, Mir.chM, Mir.biM, Mir.isM, Mir.callM, Mir.callC, Mir.callN, Mir.argsM, Mir.O.bind, Mir.rd, Mir.rds, Mir.pures, Mir.tupM, Mir.lstM, Mir.nlsM, Mir.slM, Mir.noP, Mir.someP, Mir.slG, Mir.lcM, Mir.nlcM, Mir.wipeE, Mir.seqI, Mir.rng1I, Mir.rng2I, Mir.zpBI, Mir.seqU, Mir.strI, Mir.forM, Mir.setM, Mir.setC, Mir.parsM, Mir.setUs, Mir.meM, Mir.joinG, Mir.splG, Mir.lenG, Mir.intG, Mir.strG, Mir.listG, Mir.tupleG, Mir.ixG, Mir.addG, Mir.subG, Mir.mulG, Mir.mulOk, Mir.fdivG, Mir.modG, Mir.powG, Mir.negG, Mir.ltG, Mir.leG, Mir.gtG, Mir.geG, Mir.isG, Mir.isNotG, Mir.isNon, Mir.env0, Mir.ins1, Mir.run0, Mir.run1, Mir.runN, Mir.frz, Mir.nxtM, Mir.unM, Mir.appM, Mir.isLst, Mir.kmIx, Mir.kmIn, Mir.scpM, Mir.lowU, Mir.lzpM, Mir.lixM, Mir.lixG, Mir.isLsU, Mir.tupC, Mir.wOf, Mir.frzW, Mir.frzC, Mir.dicM, Mir.nddM, Mir.callV, Mir.callM0, Mir.idxM, Mir.fndS, hdi, ht]
  | true =>
    obtain ⟨ds, rfl⟩ := tup_of ht
    obtain ⟨n', rfl⟩ := succ_of hp
    obtain ⟨hlen, hall⟩ := pl_tup.mp hp
    have hl := lenT ds
    by_cases h4 : ds.length = 4
    · match ds, h4, hlen, hall, hl, hp, hdi, ht with
      | [a, b, c, e], _, hlen, hall, hl, hp, hdi, ht =>
        have n4 : neG (.int 4) (.int 4) = some (.bl false) := rfl
        have hl : lenG [.tup [a, b, c, e]] = some (.int 4) := rfl
        have x0 : ixG (.tup [a, b, c, e]) (.int 0) = some a := rfl
        have x2 : ixG (.tup [a, b, c, e]) (.int 2) = some c := rfl
        obtain ⟨bk, k1, k2, k3⟩ := kinds_both (hall a (by simp)) (by omega) hL
        cases bk with
        | false =>
          refine ⟨false, ?_, ?_⟩
          · simp [F_is_road_of, m_is_road_of, Mir.seqM, Mir.retM, Mir.retNM, Mir.drpM, Mir.asgM, Mir.ifM, Mir.toS, Mir.namG, Mir.tupG, Mir.allG, Mir.lsuG, Mir.varM, Mir.conM, Mir.op2M, Mir.op1M, Mir.tstM, Mir.andM, Mir.orM, Mir.notM, Mir.andT, Mir.orT, Mir.notT, Mir.iteM, Mir.chM, Mir.biM, Mir.isM, Mir.callM, Mir.callC, Mir.callN, Mir.argsM, Mir.O.bind, Mir.rd, Mir.rds, Mir.pures, Mir.tupM, Mir.lstM, Mir.nlsM, Mir.slM, Mir.noP, Mir.someP, Mir.slG, Mir.lcM, Mir.nlcM, Mir.wipeE, Mir.seqI, Mir.rng1I, Mir.rng2I, Mir.zpBI, Mir.seqU, Mir.strI, Mir.forM, Mir.setM, Mir.setC, Mir.parsM, Mir.setUs, Mir.meM, Mir.joinG, Mir.splG, Mir.intG, Mir.strG, Mir.listG, Mir.tupleG, Mir.addG, Mir.subG, Mir.mulG, Mir.mulOk, Mir.fdivG, Mir.modG, Mir.powG, Mir.negG, Mir.ltG, Mir.leG, Mir.gtG, Mir.geG, Mir.isG, Mir.isNotG, Mir.isNon, Mir.env0, Mir.ins1, Mir.run0, Mir.run1, Mir.runN, Mir.frz, Mir.nxtM, Mir.unM, Mir.appM, Mir.isLst, Mir.kmIx, Mir.kmIn, Mir.scpM, Mir.lowU, Mir.lzpM, Mir.lixM, Mir.lixG, Mir.isLsU, Mir.tupC, Mir.wOf, Mir.frzW, Mir.frzC, Mir.dicM, Mir.nddM, Mir.callV, Mir.callM0, Mir.idxM, Mir.fndS, hdi, ht, hl, n4, x0, k1]
          · simp [F__law_is_road, m__law_is_road, Mir.seqM, Mir.retM, Mir.retNM, Mir.drpM, Mir.asgM, Mir.ifM, Mir.toS, Mir.namG, Mir.tupG, Mir.allG, Mir.lsuG, Mir.varM, Mir.conM, Mir.op2M, Mir.op1M, Mir.tstM, Mir.andM, Mir.orM, Mir.notM, Mir.andT, Mir.orT, Mir.notT, Mir.iteM, Mir.chM, Mir.biM, Mir.isM, Mir.callM, Mir.callC, Mir.callN, Mir.argsM, Mir.O.bind, Mir.rd, Mir.rds, Mir.pures, Mir.tupM, Mir.lstM, Mir.nlsM, Mir.slM, Mir.noP, Mir.someP, Mir.slG, Mir.lcM, Mir.nlcM, Mir.wipeE, Mir.seqI, Mir.rng1I, Mir.rng2I, Mir.zpBI, Mir.seqU, Mir.strI, Mir.forM, Mir.setM, Mir.setC, Mir.parsM, Mir.setUs, Mir.meM, Mir.joinG, Mir.splG, Mir.intG, Mir.strG, Mir.listG, Mir.tupleG, Mir.addG, Mir.subG, Mir.mulG, Mir.mulOk, Mir.fdivG, Mir.modG, Mir.powG, Mir.negG, Mir.ltG, Mir.leG, Mir.gtG, Mir.geG, Mir.isG, Mir.isNotG, Mir.isNon, Mir.env0, Mir.ins1, Mir.run0, Mir.run1, Mir.runN, Mir.frz, Mir.nxtM, Mir.unM, Mir.appM, Mir.isLst, Mir.kmIx, Mir.kmIn, Mir.scpM, Mir.lowU, Mir.lzpM, Mir.lixM, Mir.lixG, Mir.isLsU, Mir.tupC, Mir.wOf, Mir.frzW, Mir.frzC, Mir.dicM, Mir.nddM, Mir.callV, Mir.callM0, Mir.idxM, Mir.fndS, hdi, ht, hl, n4, x0, k2]
        | true =>
          obtain ⟨ks, rfl⟩ := k3 rfl
          have hk := lenT ks
          obtain ⟨f, hf⟩ := pick_all (ds := [b, c, e]) fun p hq => part_both (hall p (List.mem_cons_of_mem _ hq)) (by omega) hk x0
          have hcut := cut1 [.tup ks, b, c, e]
          have hC : C_is_road_of_1 [some (.d (.tup [.tup ks, b, c, e])), none] [] = .ok (.d (.lst (([b, c, e] : List D).map fun d => D.bl (f d)))) [] :=
            lcM_rows (fun d => D.bl (f d)) (by simp [Mir.seqM, Mir.retM, Mir.retNM, Mir.drpM, Mir.asgM, Mir.ifM, Mir.toS, Mir.namG, Mir.tupG, Mir.allG, Mir.lsuG, Mir.varM, Mir.conM, Mir.op2M, Mir.op1M, Mir.tstM, Mir.andM, Mir.orM, Mir.notM, Mir.andT, Mir.orT, Mir.notT, Mir.iteM, Mir.chM, Mir.biM, Mir.isM, Mir.callM, Mir.callC, Mir.callN, Mir.argsM, Mir.O.bind, Mir.rd, Mir.rds, Mir.pures, Mir.tupM, Mir.lstM, Mir.nlsM, Mir.slM, Mir.noP, Mir.someP, Mir.lcM, Mir.nlcM, Mir.wipeE, Mir.seqI, Mir.rng1I, Mir.rng2I, Mir.zpBI, Mir.seqU, Mir.strI, Mir.forM, Mir.setM, Mir.setC, Mir.parsM, Mir.setUs, Mir.meM, Mir.joinG, Mir.splG, Mir.lenG, Mir.intG, Mir.strG, Mir.listG, Mir.tupleG, Mir.isdic, Mir.isE, Mir.ixG, Mir.addG, Mir.subG, Mir.mulG, Mir.mulOk, Mir.fdivG, Mir.modG, Mir.powG, Mir.negG, Mir.ltG, Mir.leG, Mir.gtG, Mir.geG, Mir.isG, Mir.isNotG, Mir.isNon, Mir.env0, Mir.ins1, Mir.run0, Mir.run1, Mir.runN, Mir.frz, Mir.nxtM, Mir.unM, Mir.appM, Mir.isLst, Mir.kmIx, Mir.kmIn, Mir.scpM, Mir.lowU, Mir.lzpM, Mir.lixM, Mir.lixG, Mir.isLsU, Mir.tupC, Mir.wOf, Mir.frzW, Mir.frzC, Mir.dicM, Mir.nddM, Mir.callV, Mir.callM0, Mir.idxM, Mir.fndS, hcut]) (big_of (by simp)) fun d hd => ⟨_, rfl, rfl, by simp [Mir.seqM, Mir.retM, Mir.retNM, Mir.drpM, Mir.asgM, Mir.ifM, Mir.toS, Mir.namG, Mir.tupG, Mir.allG, Mir.lsuG, Mir.varM, Mir.conM, Mir.op2M, Mir.op1M, Mir.tstM, Mir.andM, Mir.orM, Mir.notM, Mir.andT, Mir.orT, Mir.notT, Mir.iteM, Mir.chM, Mir.biM, Mir.isM, Mir.callM, Mir.callC, Mir.callN, Mir.argsM, Mir.O.bind, Mir.rd, Mir.rds, Mir.pures, Mir.tupM, Mir.lstM, Mir.nlsM, Mir.slM, Mir.noP, Mir.someP, Mir.slG, Mir.lcM, Mir.nlcM, Mir.wipeE, Mir.seqI, Mir.rng1I, Mir.rng2I, Mir.zpBI, Mir.seqU, Mir.strI, Mir.forM, Mir.setM, Mir.setC, Mir.parsM, Mir.setUs, Mir.meM, Mir.joinG, Mir.splG, Mir.lenG, Mir.intG, Mir.strG, Mir.listG, Mir.tupleG, Mir.isdic, Mir.isE, Mir.addG, Mir.subG, Mir.mulG, Mir.mulOk, Mir.fdivG, Mir.modG, Mir.powG, Mir.negG, Mir.ltG, Mir.leG, Mir.gtG, Mir.geG, Mir.isG, Mir.isNotG, Mir.isNon, Mir.env0, Mir.ins1, Mir.run0, Mir.run1, Mir.runN, Mir.frz, Mir.nxtM, Mir.unM, Mir.appM, Mir.isLst, Mir.kmIx, Mir.kmIn, Mir.scpM, Mir.lowU, Mir.lzpM, Mir.lixM, Mir.lixG, Mir.isLsU, Mir.tupC, Mir.wOf, Mir.frzW, Mir.frzC, Mir.dicM, Mir.nddM, Mir.callV, Mir.callM0, Mir.idxM, Mir.fndS, x0, (hf d hd).1]⟩
          have ha := all_bl f [b, c, e]
          simp only [List.map_cons, List.map_nil] at hC ha
          have n2 : neG c (.tup []) = some (.bl (!eqD c (.tup []))) := by
            unfold neG
            rw [pl_sh (hall c (by simp)) (by omega)]
            rfl
          have key := forL_find (S := []) (g := namG 1) (f := B__law_is_road_1) (fun ρ => ∃ x, ρ = [some (.d (.tup [.tup ks, b, c, e])), x, none]) (fun d => !f d) (.d (.bl false)) [b, c, e] [some (.d (.tup [.tup ks, b, c, e])), none, none] ⟨none, rfl⟩ (fun d hd ρ hI => by
            obtain ⟨x, rfl⟩ := hI
            have hb := (hf d hd).2
            refine ⟨[some (.d (.tup [.tup ks, b, c, e])), some (.d d), none], rfl, fun z => ?_, fun z => ⟨_, ?_, ⟨some (.d d), rfl⟩⟩⟩
            · rw [hb, if_neg (by simpa using z)]
            · rw [hb, if_pos (by simpa using z)])
          rw [any_not_all] at key
          have hd3 : ([.tup ks, b, c, e] : List D).drop 1 = [b, c, e] := rfl
          rw [hd3] at hcut
          cases hc : ([b, c, e] : List D).all f with
          | true =>
            obtain ⟨ρ2, kk, x, rfl⟩ := key.2 (by rw [hc]; rfl)
            rw [hc] at ha
            refine ⟨!eqD c (.tup []), ?_, ?_⟩
            · simp [F_is_road_of, m_is_road_of, Mir.seqM, Mir.retM, Mir.retNM, Mir.drpM, Mir.asgM, Mir.ifM, Mir.toS, Mir.namG, Mir.tupG, Mir.allG, Mir.lsuG, Mir.varM, Mir.conM, Mir.op2M, Mir.op1M, Mir.tstM, Mir.andM, Mir.orM, Mir.notM, Mir.andT, Mir.orT, Mir.notT, Mir.iteM, Mir.chM, Mir.biM, Mir.isM, Mir.callM, Mir.callC, Mir.callN, Mir.argsM, Mir.O.bind, Mir.rd, Mir.rds, Mir.pures, Mir.tupM, Mir.lstM, Mir.nlsM, Mir.slM, Mir.noP, Mir.someP, Mir.slG, Mir.lcM, Mir.nlcM, Mir.wipeE, Mir.seqI, Mir.rng1I, Mir.rng2I, Mir.zpBI, Mir.seqU, Mir.strI, Mir.forM, Mir.setM, Mir.setC, Mir.parsM, Mir.setUs, Mir.meM, Mir.joinG, Mir.splG, Mir.intG, Mir.strG, Mir.listG, Mir.tupleG, Mir.addG, Mir.subG, Mir.mulG, Mir.mulOk, Mir.fdivG, Mir.modG, Mir.powG, Mir.negG, Mir.ltG, Mir.leG, Mir.gtG, Mir.geG, Mir.isG, Mir.isNotG, Mir.isNon, Mir.env0, Mir.ins1, Mir.run0, Mir.run1, Mir.runN, Mir.frz, Mir.nxtM, Mir.unM, Mir.appM, Mir.isLst, Mir.kmIx, Mir.kmIn, Mir.scpM, Mir.lowU, Mir.lzpM, Mir.lixM, Mir.lixG, Mir.isLsU, Mir.tupC, Mir.wOf, Mir.frzW, Mir.frzC, Mir.dicM, Mir.nddM, Mir.callV, Mir.callM0, Mir.idxM, Mir.fndS, hdi, ht, hl, n4, x0, x2, k1, hC, ha, n2]
            · simp [F__law_is_road, m__law_is_road, Mir.seqM, Mir.retM, Mir.retNM, Mir.drpM, Mir.asgM, Mir.ifM, Mir.toS, Mir.namG, Mir.tupG, Mir.allG, Mir.lsuG, Mir.varM, Mir.conM, Mir.op2M, Mir.op1M, Mir.tstM, Mir.andM, Mir.orM, Mir.notM, Mir.andT, Mir.orT, Mir.notT, Mir.iteM, Mir.chM, Mir.biM, Mir.isM, Mir.callM, Mir.callC, Mir.callN, Mir.argsM, Mir.O.bind, Mir.rd, Mir.rds, Mir.pures, Mir.tupM, Mir.lstM, Mir.nlsM, Mir.slM, Mir.noP, Mir.someP, Mir.lcM, Mir.nlcM, Mir.wipeE, Mir.seqI, Mir.rng1I, Mir.rng2I, Mir.zpBI, Mir.seqU, Mir.strI, Mir.forM, Mir.setM, Mir.setC, Mir.parsM, Mir.setUs, Mir.meM, Mir.joinG, Mir.splG, Mir.intG, Mir.strG, Mir.listG, Mir.tupleG, Mir.addG, Mir.subG, Mir.mulG, Mir.mulOk, Mir.fdivG, Mir.modG, Mir.powG, Mir.negG, Mir.ltG, Mir.leG, Mir.gtG, Mir.geG, Mir.isG, Mir.isNotG, Mir.isNon, Mir.env0, Mir.ins1, Mir.run0, Mir.run1, Mir.runN, Mir.frz, Mir.nxtM, Mir.unM, Mir.appM, Mir.isLst, Mir.kmIx, Mir.kmIn, Mir.scpM, Mir.lowU, Mir.lzpM, Mir.lixM, Mir.lixG, Mir.isLsU, Mir.tupC, Mir.wOf, Mir.frzW, Mir.frzC, Mir.dicM, Mir.nddM, Mir.callV, Mir.callM0, Mir.idxM, Mir.fndS, hdi, ht, hl, n4, x0, x2, k2, hcut, kk, n2]
          | false =>
            have kk := key.1 (by rw [hc]; rfl)
            rw [hc] at ha
            refine ⟨false, ?_, ?_⟩
            · simp [F_is_road_of, m_is_road_of, Mir.seqM, Mir.retM, Mir.retNM, Mir.drpM, Mir.asgM, Mir.ifM, Mir.toS, Mir.namG, Mir.tupG, Mir.allG, Mir.lsuG, Mir.varM, Mir.conM, Mir.op2M, Mir.op1M, Mir.tstM, Mir.andM, Mir.orM, Mir.notM, Mir.andT, Mir.orT, Mir.notT, Mir.iteM, Mir.chM, Mir.biM, Mir.isM, Mir.callM, Mir.callC, Mir.callN, Mir.argsM, Mir.O.bind, Mir.rd, Mir.rds, Mir.pures, Mir.tupM, Mir.lstM, Mir.nlsM, Mir.slM, Mir.noP, Mir.someP, Mir.slG, Mir.lcM, Mir.nlcM, Mir.wipeE, Mir.seqI, Mir.rng1I, Mir.rng2I, Mir.zpBI, Mir.seqU, Mir.strI, Mir.forM, Mir.setM, Mir.setC, Mir.parsM, Mir.setUs, Mir.meM, Mir.joinG, Mir.splG, Mir.intG, Mir.strG, Mir.listG, Mir.tupleG, Mir.addG, Mir.subG, Mir.mulG, Mir.mulOk, Mir.fdivG, Mir.modG, Mir.powG, Mir.negG, Mir.ltG, Mir.leG, Mir.gtG, Mir.geG, Mir.isG, Mir.isNotG, Mir.isNon, Mir.env0, Mir.ins1, Mir.run0, Mir.run1, Mir.runN, Mir.frz, Mir.nxtM, Mir.unM, Mir.appM, Mir.isLst, Mir.kmIx, Mir.kmIn, Mir.scpM, Mir.lowU, Mir.lzpM, Mir.lixM, Mir.lixG, Mir.isLsU, Mir.tupC, Mir.wOf, Mir.frzW, Mir.frzC, Mir.dicM, Mir.nddM, Mir.callV, Mir.callM0, Mir.idxM, Mir.fndS, hdi, ht, hl, n4, x0, x2, k1, hC, ha, n2]
            · simp [F__law_is_road, m__law_is_road, Mir.seqM, Mir.retM, Mir.retNM, Mir.drpM, Mir.asgM, Mir.ifM, Mir.toS, Mir.namG, Mir.tupG, Mir.allG, Mir.lsuG, Mir.varM, Mir.conM, Mir.op2M, Mir.op1M, Mir.tstM, Mir.andM, Mir.orM, Mir.notM, Mir.andT, Mir.orT, Mir.notT, Mir.iteM, Mir.chM, Mir.biM, Mir.isM, Mir.callM, Mir.callC, Mir.callN, Mir.argsM, Mir.O.bind, Mir.rd, Mir.rds, Mir.pures, Mir.tupM, Mir.lstM, Mir.nlsM, Mir.slM, Mir.noP, Mir.someP, Mir.lcM, Mir.nlcM, Mir.wipeE, Mir.seqI, Mir.rng1I, Mir.rng2I, Mir.zpBI, Mir.seqU, Mir.strI, Mir.forM, Mir.setM, Mir.setC, Mir.parsM, Mir.setUs, Mir.meM, Mir.joinG, Mir.splG, Mir.intG, Mir.strG, Mir.listG, Mir.tupleG, Mir.addG, Mir.subG, Mir.mulG, Mir.mulOk, Mir.fdivG, Mir.modG, Mir.powG, Mir.negG, Mir.ltG, Mir.leG, Mir.gtG, Mir.geG, Mir.isG, Mir.isNotG, Mir.isNon, Mir.env0, Mir.ins1, Mir.run0, Mir.run1, Mir.runN, Mir.frz, Mir.nxtM, Mir.unM, Mir.appM, Mir.isLst, Mir.kmIx, Mir.kmIn, Mir.scpM, Mir.lowU, Mir.lzpM, Mir.lixM, Mir.lixG, Mir.isLsU, Mir.tupC, Mir.wOf, Mir.frzW, Mir.frzC, Mir.dicM, Mir.nddM, Mir.callV, Mir.callM0, Mir.idxM, Mir.fndS, hdi, ht, hl, n4, x0, x2, k2, hcut, kk, n2]
    · have n4 : neG (.int (ds.length : Nat)) (.int 4) = some (.bl true) := by
        have : ¬ (ds.length : Int) = 4 := by omega
        rw [neG_int, beq_eq_false_iff_ne.mpr this]; rfl
      refine ⟨false, ?_, ?_⟩
      · simp [F_is_road_of, m_is_road_of, Mir.seqM, Mir.retM, Mir.retNM, Mir.drpM, Mir.asgM, Mir.ifM, Mir.toS, Mir.namG, Mir.tupG, Mir.allG, Mir.lsuG, Mir.varM, Mir.conM, Mir.op2M, Mir.op1M, Mir.tstM, Mir.andM, Mir.orM, Mir.notM, Mir.andT, Mir.orT, Mir.notT, Mir.iteM, Mir.chM, Mir.biM, Mir.isM, Mir.callM, Mir.callC, Mir.callN, Mir.argsM, Mir.O.bind, Mir.rd, Mir.rds, Mir.pures, Mir.tupM, Mir.lstM, Mir.nlsM, Mir.slM, Mir.noP, Mir.someP, Mir.slG, Mir.lcM, Mir.nlcM, Mir.wipeE, Mir.seqI, Mir.rng1I, Mir.rng2I, Mir.zpBI, Mir.seqU, Mir.strI, Mir.forM, Mir.setM, Mir.setC, Mir.parsM, Mir.setUs, Mir.meM, Mir.joinG, Mir.splG, Mir.intG, Mir.strG, Mir.listG, Mir.tupleG, Mir.ixG, Mir.addG, Mir.subG, Mir.mulG, Mir.mulOk, Mir.fdivG, Mir.modG, Mir.powG, Mir.negG, Mir.ltG, Mir.leG, Mir.gtG, Mir.geG, Mir.isG, Mir.isNotG, Mir.isNon, Mir.env0, Mir.ins1, Mir.run0, Mir.run1, Mir.runN, Mir.frz, Mir.nxtM, Mir.unM, Mir.appM, Mir.isLst, Mir.kmIx, Mir.kmIn, Mir.scpM, Mir.lowU, Mir.lzpM, Mir.lixM, Mir.lixG, Mir.isLsU, Mir.tupC, Mir.wOf, Mir.frzW, Mir.frzC, Mir.dicM, Mir.nddM, Mir.callV, Mir.callM0, Mir.idxM, Mir.fndS, hdi, ht, hl, n4]
      · simp [F__law_is_road, m__law_is_road, Mir.seqM, Mir.retM, Mir.retNM, Mir.drpM, Mir.asgM, Mir.ifM, Mir.toS, Mir.namG, Mir.tupG, Mir.allG, Mir.lsuG, Mir.varM, Mir.conM, Mir.op2M, Mir.op1M, Mir.tstM, Mir.andM, Mir.orM, Mir.notM, Mir.andT, Mir.orT, Mir.notT, Mir.iteM, Mir.chM, Mir.biM, Mir.isM, Mir.callM, Mir.callC, Mir.callN, Mir.argsM, Mir.O.bind, Mir.rd, Mir.rds, Mir.pures, Mir.tupM, Mir.lstM, Mir.nlsM, Mir.slM, Mir.noP, Mir.someP, Mir.slG, Mir.lcM, Mir.nlcM, Mir.wipeE, Mir.seqI, Mir.rng1I, Mir.rng2I, Mir.zpBI, Mir.seqU, Mir.strI, Mir.forM, Mir.setM, Mir.setC, Mir.parsM, Mir.setUs, Mir.meM, Mir.joinG, Mir.splG, Mir.intG, Mir.strG, Mir.listG, Mir.tupleG, Mir.ixG, Mir.addG, Mir.subG, Mir.mulG, Mir.mulOk, Mir.fdivG, Mir.modG, Mir.powG, Mir.negG, Mir.ltG, Mir.leG, Mir.gtG, Mir.geG, Mir.isG, Mir.isNotG, Mir.isNon, Mir.env0, Mir.ins1, Mir.run0, Mir.run1, Mir.runN, Mir.frz, Mir.nxtM, Mir.unM, Mir.appM, Mir.isLst, Mir.kmIx, Mir.kmIn, Mir.scpM, Mir.lowU, Mir.lzpM, Mir.lixM, Mir.lixG, Mir.isLsU, Mir.tupC, Mir.wOf, Mir.frzW, Mir.frzC, Mir.dicM, Mir.nddM, Mir.callV, Mir.callM0, Mir.idxM, Mir.fndS, hdi, ht, hl, n4]

/-! ### the check of the check -/
theorem hs_road : hsel sub_t hs__law_word "InvalidRoad" = some "road" := by decide +kernel
theorem eq_road : eqG (.str "road") (.str "road") = some (.bl true) := eqG_refl (n := 0) (by decide +kernel)
theorem cells_bad {d v : D} (h : F_is_road_of [d] = .ok (.bl false)) : F_cells [d, v] = .ex { cls := "InvalidRoad" } := by
  have h1 : F_need_road [d] = .ex { cls := "InvalidRoad" } := by simp [F_need_road, m_need_road, Mir.seqM, Mir.retM, Mir.retNM, Mir.drpM, Mir.asgM, Mir.ifM, Mir.toS, Mir.namG, Mir.tupG, Mir.allG, Mir.lsuG, Mir.varM, Mir.conM, Mir.op2M, Mir.op1M, Mir.tstM, Mir.andM, Mir.orM, Mir.notM, Mir.andT, Mir.orT, Mir.notT, Mir.iteM, Mir.chM, Mir.biM, Mir.isM, Mir.callM, Mir.callC, Mir.callN, Mir.argsM, Mir.O.bind, Mir.rd, Mir.rds, Mir.pures, Mir.tupM, Mir.lstM, Mir.nlsM, Mir.slM, Mir.noP, Mir.someP, Mir.slG, Mir.lcM, Mir.nlcM, Mir.wipeE, Mir.seqI, Mir.rng1I, Mir.rng2I, Mir.zpBI, Mir.seqU, Mir.strI, Mir.forM, Mir.setM, Mir.setC, Mir.parsM, Mir.setUs, Mir.meM, Mir.joinG, Mir.splG, Mir.lenG, Mir.intG, Mir.strG, Mir.listG, Mir.tupleG, Mir.isdic, Mir.isE, Mir.ixG, Mir.addG, Mir.subG, Mir.mulG, Mir.mulOk, Mir.fdivG, Mir.modG, Mir.powG, Mir.negG, Mir.ltG, Mir.leG, Mir.gtG, Mir.geG, Mir.isG, Mir.isNotG, Mir.isNon, Mir.env0, Mir.ins1, Mir.run0, Mir.run1, Mir.runN, Mir.frz, Mir.nxtM, Mir.unM, Mir.appM, Mir.isLst, Mir.kmIx, Mir.kmIn, Mir.scpM, Mir.lowU, Mir.lzpM, Mir.lixM, Mir.lixG, Mir.isLsU, Mir.tupC, Mir.wOf, Mir.frzW, Mir.frzC, Mir.dicM, Mir.nddM, Mir.callV, Mir.callM0, Mir.idxM, Mir.fndS, h, Mir.raiM]
  simp [F_cells, m_cells, Mir.seqM, Mir.retM, Mir.retNM, Mir.drpM, Mir.asgM, Mir.ifM, Mir.toS, Mir.namG, Mir.tupG, Mir.allG, Mir.lsuG, Mir.varM, Mir.conM, Mir.op2M, Mir.op1M, Mir.tstM, Mir.andM, Mir.orM, Mir.notM, Mir.andT, Mir.orT, Mir.notT, Mir.iteM, Mir.chM, Mir.biM, Mir.isM, Mir.callM, Mir.callC, Mir.callN, Mir.argsM, Mir.O.bind, Mir.rd, Mir.rds, Mir.pures, Mir.tupM, Mir.lstM, Mir.nlsM, Mir.slM, Mir.noP, Mir.someP, Mir.slG, Mir.lcM, Mir.nlcM, Mir.wipeE, Mir.seqI, Mir.rng1I, Mir.rng2I, Mir.zpBI, Mir.seqU, Mir.strI, Mir.forM, Mir.setM, Mir.setC, Mir.parsM, Mir.setUs, Mir.meM, Mir.joinG, Mir.splG, Mir.lenG, Mir.intG, Mir.strG, Mir.listG, Mir.tupleG, Mir.isdic, Mir.isE, Mir.ixG, Mir.addG, Mir.subG, Mir.mulG, Mir.mulOk, Mir.fdivG, Mir.modG, Mir.powG, Mir.negG, Mir.ltG, Mir.leG, Mir.gtG, Mir.geG, Mir.isG, Mir.isNotG, Mir.isNon, Mir.env0, Mir.ins1, Mir.run0, Mir.run1, Mir.runN, Mir.frz, Mir.nxtM, Mir.unM, Mir.appM, Mir.isLst, Mir.kmIx, Mir.kmIn, Mir.scpM, Mir.lowU, Mir.lzpM, Mir.lixM, Mir.lixG, Mir.isLsU, Mir.tupC, Mir.wOf, Mir.frzW, Mir.frzC, Mir.dicM, Mir.nddM, Mir.callV, Mir.callM0, Mir.idxM, Mir.fndS, h1]
theorem right_ok {n L : Nat} {d : D} (hp : pl n L d = true) (hn : n ≤ 64) (hL : L ≤ 60) : F__law_right [d] = .ok (.bl true) := by
  obtain ⟨b, h1, h2⟩ := road_both hp hn hL
  have h3 : F_is_road [d] = .ok (.bl b) := by simp [F_is_road, m_is_road, Mir.seqM, Mir.retM, Mir.retNM, Mir.drpM, Mir.asgM, Mir.ifM, Mir.toS, Mir.namG, Mir.tupG, Mir.allG, Mir.lsuG, Mir.varM, Mir.conM, Mir.op2M, Mir.op1M, Mir.tstM, Mir.andM, Mir.orM, Mir.notM, Mir.andT, Mir.orT, Mir.notT, Mir.iteM, Mir.chM, Mir.biM, Mir.isM, Mir.callM, Mir.callC, Mir.callN, Mir.argsM, Mir.O.bind, Mir.rd, Mir.rds, Mir.pures, Mir.tupM, Mir.lstM, Mir.nlsM, Mir.slM, Mir.noP, Mir.someP, Mir.slG, Mir.lcM, Mir.nlcM, Mir.wipeE, Mir.seqI, Mir.rng1I, Mir.rng2I, Mir.zpBI, Mir.seqU, Mir.strI, Mir.forM, Mir.setM, Mir.setC, Mir.parsM, Mir.setUs, Mir.meM, Mir.joinG, Mir.splG, Mir.lenG, Mir.intG, Mir.strG, Mir.listG, Mir.tupleG, Mir.isdic, Mir.isE, Mir.ixG, Mir.addG, Mir.subG, Mir.mulG, Mir.mulOk, Mir.fdivG, Mir.modG, Mir.powG, Mir.negG, Mir.ltG, Mir.leG, Mir.gtG, Mir.geG, Mir.isG, Mir.isNotG, Mir.isNon, Mir.env0, Mir.ins1, Mir.run0, Mir.run1, Mir.runN, Mir.frz, Mir.nxtM, Mir.unM, Mir.appM, Mir.isLst, Mir.kmIx, Mir.kmIn, Mir.scpM, Mir.lowU, Mir.lzpM, Mir.lixM, Mir.lixG, Mir.isLsU, Mir.tupC, Mir.wOf, Mir.frzW, Mir.frzC, Mir.dicM, Mir.nddM, Mir.callV, Mir.callM0, Mir.idxM, Mir.fndS, h1]
  have tb : ∀ b : Bool, isE .bool (.bl b) = true := fun _ => rfl
  have nb : neG (.bl b) (.bl b) = some (.bl false) := by cases b <;> rfl
  cases b with
  | true => simp [F__law_right, m__law_right, Mir.seqM, Mir.retM, Mir.retNM, Mir.drpM, Mir.asgM, Mir.ifM, Mir.toS, Mir.namG, Mir.tupG, Mir.allG, Mir.lsuG, Mir.varM, Mir.conM, Mir.op2M, Mir.op1M, Mir.tstM, Mir.andM, Mir.orM, Mir.notM, Mir.andT, Mir.orT, Mir.notT, Mir.iteM, Mir.chM, Mir.biM, Mir.isM, Mir.callM, Mir.callC, Mir.callN, Mir.argsM, Mir.O.bind, Mir.rd, Mir.rds, Mir.pures, Mir.tupM, Mir.lstM, Mir.nlsM, Mir.slM, Mir.noP, Mir.someP, Mir.slG, Mir.lcM, Mir.nlcM, Mir.wipeE, Mir.seqI, Mir.rng1I, Mir.rng2I, Mir.zpBI, Mir.seqU, Mir.strI, Mir.forM, Mir.setM, Mir.setC, Mir.parsM, Mir.setUs, Mir.meM, Mir.joinG, Mir.splG, Mir.lenG, Mir.intG, Mir.strG, Mir.listG, Mir.tupleG, Mir.isdic, Mir.isE, Mir.ixG, Mir.addG, Mir.subG, Mir.mulG, Mir.mulOk, Mir.fdivG, Mir.modG, Mir.powG, Mir.negG, Mir.ltG, Mir.leG, Mir.gtG, Mir.geG, Mir.isG, Mir.isNotG, Mir.isNon, Mir.env0, Mir.ins1, Mir.run0, Mir.run1, Mir.runN, Mir.frz, Mir.nxtM, Mir.unM, Mir.appM, Mir.isLst, Mir.kmIx, Mir.kmIn, Mir.scpM, Mir.lowU, Mir.lzpM, Mir.lixM, Mir.lixG, Mir.isLsU, Mir.tupC, Mir.wOf, Mir.frzW, Mir.frzC, Mir.dicM, Mir.nddM, Mir.callV, Mir.callM0, Mir.idxM, Mir.fndS, h3, h2, nb, Mir.setUs]
  | false =>
    have h4 := cells_bad (v := .non) h1
    simp [F__law_right, m__law_right, Mir.seqM, Mir.retM, Mir.retNM, Mir.drpM, Mir.asgM, Mir.ifM, Mir.toS, Mir.namG, Mir.tupG, Mir.allG, Mir.lsuG, Mir.varM, Mir.conM, Mir.op2M, Mir.op1M, Mir.tstM, Mir.andM, Mir.orM, Mir.notM, Mir.andT, Mir.orT, Mir.notT, Mir.iteM, Mir.chM, Mir.biM, Mir.isM, Mir.callM, Mir.callC, Mir.callN, Mir.argsM, Mir.O.bind, Mir.rd, Mir.rds, Mir.pures, Mir.tupM, Mir.lstM, Mir.nlsM, Mir.slM, Mir.noP, Mir.someP, Mir.slG, Mir.lcM, Mir.nlcM, Mir.wipeE, Mir.seqI, Mir.rng1I, Mir.rng2I, Mir.zpBI, Mir.seqU, Mir.strI, Mir.forM, Mir.setM, Mir.setC, Mir.parsM, Mir.setUs, Mir.meM, Mir.joinG, Mir.splG, Mir.lenG, Mir.intG, Mir.strG, Mir.listG, Mir.tupleG, Mir.isdic, Mir.isE, Mir.ixG, Mir.addG, Mir.subG, Mir.mulG, Mir.mulOk, Mir.fdivG, Mir.modG, Mir.powG, Mir.negG, Mir.ltG, Mir.leG, Mir.gtG, Mir.geG, Mir.isG, Mir.isNotG, Mir.isNon, Mir.env0, Mir.ins1, Mir.run0, Mir.run1, Mir.runN, Mir.frz, Mir.nxtM, Mir.unM, Mir.appM, Mir.isLst, Mir.kmIx, Mir.kmIn, Mir.scpM, Mir.lowU, Mir.lzpM, Mir.lixM, Mir.lixG, Mir.isLsU, Mir.tupC, Mir.wOf, Mir.frzW, Mir.frzC, Mir.dicM, Mir.nddM, Mir.callV, Mir.callM0, Mir.idxM, Mir.fndS, h3, h2, nb, Mir.setUs, Mir.lamM, h4, hs_road, eq_road]
def oddL : List D := [.non, .bl true, .bl false, .int 0, .int 1, .int 2, .int 3, .int 4, .int (-1), .int 1000000000000000000000000000000, .str "", .str "first", .str "left", .str "right", .tup [], .lst [], .tup [.int 0], .tup [.int 0, .int 1],
  .tup [.str "left"], .tup [.str "right", .str "left"], .tup [.tup [], .tup []], .tup [.tup [.tup [], .tup []]], .tup [.int 0, .int 0, .int 0, .int 0, .int 0], .str "stay"]
theorem oddL_pl : (oddL.all (pl 3 5)) = true := by decide +kernel
theorem odd_ok {c : Cell} (hc : Sk c) : ∃ d c', F__law_odd [] c = .ok d c' ∧ Sk c' ∧ pl 3 5 d = true := by
  obtain ⟨d, c', h1, h2, h3⟩ := pick_ok hc (xs := oddL) (by simp [oddL]) (by decide)
  refine ⟨d, c', ?_, h2, List.all_eq_true.mp oddL_pl d h3⟩
  have p30 : powG (.int 10) (.int 30) = some (.int 1000000000000000000000000000000) := rfl
  have hb : (24 : Nat) ≤ big := by decide
  unfold oddL at h1
  simp [F__law_odd, m__law_odd, run1, Mir.ins1, Mir.seqM, Mir.retM, Mir.retNM, Mir.drpM, Mir.asgM, Mir.ifM, Mir.toS, Mir.namG, Mir.tupG, Mir.allG, Mir.lsuG, Mir.varM, Mir.conM, Mir.op2M, Mir.op1M, Mir.tstM, Mir.andM, Mir.orM, Mir.notM, Mir.andT, Mir.orT, Mir.notT, Mir.iteM, Mir.chM, Mir.biM, Mir.isM, Mir.callM, Mir.callC, Mir.callN, Mir.argsM, Mir.O.bind, Mir.rd, Mir.rds, Mir.pures, Mir.tupM, Mir.lstM, Mir.nlsM, Mir.slM, Mir.noP, Mir.someP, Mir.slG, Mir.lcM, Mir.nlcM, Mir.wipeE, Mir.seqI, Mir.rng1I, Mir.rng2I, Mir.zpBI, Mir.seqU, Mir.strI, Mir.forM, Mir.setM, Mir.setC, Mir.parsM, Mir.setUs, Mir.meM, Mir.joinG, Mir.splG, Mir.lenG, Mir.intG, Mir.strG, Mir.listG, Mir.tupleG, Mir.isdic, Mir.isE, Mir.ixG, Mir.addG, Mir.subG, Mir.mulG, Mir.mulOk, Mir.fdivG, Mir.modG, Mir.negG, Mir.ltG, Mir.leG, Mir.gtG, Mir.geG, Mir.isG, Mir.isNotG, Mir.isNon, Mir.env0, Mir.ins1, Mir.run0, Mir.run1, Mir.runN, Mir.frz, Mir.nxtM, Mir.unM, Mir.appM, Mir.isLst, Mir.kmIx, Mir.kmIn, Mir.scpM, Mir.lowU, Mir.lzpM, Mir.lixM, Mir.lixG, Mir.isLsU, Mir.tupC, Mir.wOf, Mir.frzW, Mir.frzC, Mir.dicM, Mir.nddM, Mir.callV, Mir.callM0, Mir.idxM, Mir.fndS, p30, Mir.negG, h1, hb]
theorem cutD_lo (xs : List D) (k : Nat) (h : k ≤ xs.length) : slG (.tup xs) none (some (k : Int)) = some (.tup (xs.take k)) := by
  simp only [slG, cutL, HT.sIx, List.drop_zero, Nat.sub_zero]
  rw [if_neg (by omega)]
  have h10 : ((k : Int)).toNat = k := by omega
  rw [h10, Nat.min_eq_left h]
theorem cutD_hi (xs : List D) (k : Nat) (h : k ≤ xs.length) : slG (.tup xs) (some (k : Int)) none = some (.tup (xs.drop k)) := by
  simp only [slG, cutL, HT.sIx]
  rw [if_neg (by omega)]
  have h10 : ((k : Int)).toNat = k := by omega
  rw [h10, Nat.min_eq_left h, List.take_of_length_le (by simp)]
theorem addT {xs ys : List D} (h : xs.length + ys.length ≤ 1000) : addG (.tup xs) (.tup ys) = some (.tup (xs ++ ys)) := by
  show (if xs.length + ys.length ≤ big then some (D.tup (xs ++ ys)) else none) = _
  rw [if_pos (Nat.le_trans h (by decide))]
theorem eq_nilT {xs : List D} {n L : Nat} (h : pl n L (.tup xs) = true) (hn : n ≤ 64) : eqG (.tup xs) (.tup []) = some (.bl xs.isEmpty) := by
  have e : eqG (.tup xs) (.tup []) = some (.bl (eqD (.tup xs) (.tup []))) := by
    unfold eqG
    rw [pl_sh h hn]
    rfl
  rw [e]
  cases xs <;> rfl
theorem pl_up {n L : Nat} {d : D} (h : pl 3 5 d = true) (hL : 5 ≤ L) : pl (n + 3) (L + 1) d = true := pl_mono (by omega) (by omega) h
theorem bent_odd {R : List D → Cell → R1} {v : D} {c : Cell} (hc : Sk c) {n L : Nat} (hp : pl n L v = true) (hL : 5 ≤ L) (ht : isE .tuple v = false) :
    ∃ v' c', run1 4 0 (m__law_bent R) [v] c = .ok v' c' ∧ Sk c' ∧ pl (n + 3) (L + 1) v' = true := by
  have hdi := isdic_pl hp
  by_cases hi : ∃ i, v = .int i
  · obtain ⟨i, rfl⟩ := hi
    obtain ⟨r, c1, g1, g2, g3⟩ := gripN_ok hc (many := 3) (by decide) (by decide)
    have g1' : F__law_grip [.int 3] c = .ok (.int (r : Nat)) c1 := g1
    by_cases h0 : 0 < r
    · obtain ⟨d, c2, p1, p2, p3⟩ := pick_ok g2 (xs := [.int (-1), .int 1, .int 1, .int 2, .int (-3)]) (by simp) (by decide)
      have hd : ∃ j, d = .int j := by
        simp only [List.mem_cons, List.not_mem_nil, or_false] at p3
        rcases p3 with h | h | h | h | h <;> exact ⟨_, h⟩
      obtain ⟨j, rfl⟩ := hd
      have h0' : (0 : Int) < (r : Int) := by omega
      refine ⟨.int (i + j), c2, ?_, p2, by simp [pl]⟩
      simp [m__law_bent, run1, Mir.ins1, Mir.seqM, Mir.retM, Mir.retNM, Mir.drpM, Mir.asgM, Mir.ifM, Mir.toS, Mir.namG, Mir.tupG, Mir.allG, Mir.lsuG, Mir.varM, Mir.conM, Mir.op2M, Mir.op1M, Mir.tstM, Mir.andM, Mir.orM, Mir.notM, Mir.andT, Mir.orT, Mir.notT, Mir.iteM, Mir.chM, Mir.biM, Mir.isM, Mir.callM, Mir.callC, Mir.callN, Mir.argsM, Mir.O.bind, Mir.rd, Mir.rds, Mir.pures, Mir.tupM, Mir.lstM, Mir.nlsM, Mir.slM, Mir.noP, Mir.someP, Mir.slG, Mir.lcM, Mir.nlcM, Mir.wipeE, Mir.seqI, Mir.rng1I, Mir.rng2I, Mir.zpBI, Mir.seqU, Mir.strI, Mir.forM, Mir.setM, Mir.setC, Mir.parsM, Mir.setUs, Mir.meM, Mir.joinG, Mir.splG, Mir.lenG, Mir.intG, Mir.strG, Mir.listG, Mir.tupleG, Mir.isdic, Mir.isE, Mir.ixG, Mir.addG, Mir.subG, Mir.mulG, Mir.mulOk, Mir.fdivG, Mir.modG, Mir.powG, Mir.negG, Mir.ltG, Mir.leG, Mir.gtG, Mir.geG, Mir.isG, Mir.isNotG, Mir.isNon, Mir.env0, Mir.ins1, Mir.run0, Mir.run1, Mir.runN, Mir.frz, Mir.nxtM, Mir.unM, Mir.appM, Mir.isLst, Mir.kmIx, Mir.kmIn, Mir.scpM, Mir.lowU, Mir.lzpM, Mir.lixM, Mir.lixG, Mir.isLsU, Mir.tupC, Mir.wOf, Mir.frzW, Mir.frzC, Mir.dicM, Mir.nddM, Mir.callV, Mir.callM0, Mir.idxM, Mir.fndS, Mir.negG, g1', h0, h0', p1]
    · obtain ⟨d, c2, o1, o2, o3⟩ := odd_ok g2
      have h0' : ¬ (0 : Int) < (r : Int) := by omega
      refine ⟨d, c2, ?_, o2, pl_up o3 hL⟩
      simp [m__law_bent, run1, Mir.ins1, Mir.seqM, Mir.retM, Mir.retNM, Mir.drpM, Mir.asgM, Mir.ifM, Mir.toS, Mir.namG, Mir.tupG, Mir.allG, Mir.lsuG, Mir.varM, Mir.conM, Mir.op2M, Mir.op1M, Mir.tstM, Mir.andM, Mir.orM, Mir.notM, Mir.andT, Mir.orT, Mir.notT, Mir.iteM, Mir.chM, Mir.biM, Mir.isM, Mir.callM, Mir.callC, Mir.callN, Mir.argsM, Mir.O.bind, Mir.rd, Mir.rds, Mir.pures, Mir.tupM, Mir.lstM, Mir.nlsM, Mir.slM, Mir.noP, Mir.someP, Mir.slG, Mir.lcM, Mir.nlcM, Mir.wipeE, Mir.seqI, Mir.rng1I, Mir.rng2I, Mir.zpBI, Mir.seqU, Mir.strI, Mir.forM, Mir.setM, Mir.setC, Mir.parsM, Mir.setUs, Mir.meM, Mir.joinG, Mir.splG, Mir.lenG, Mir.intG, Mir.strG, Mir.listG, Mir.tupleG, Mir.isdic, Mir.isE, Mir.ixG, Mir.addG, Mir.subG, Mir.mulG, Mir.mulOk, Mir.fdivG, Mir.modG, Mir.powG, Mir.negG, Mir.ltG, Mir.leG, Mir.gtG, Mir.geG, Mir.isG, Mir.isNotG, Mir.isNon, Mir.env0, Mir.ins1, Mir.run0, Mir.run1, Mir.runN, Mir.frz, Mir.nxtM, Mir.unM, Mir.appM, Mir.isLst, Mir.kmIx, Mir.kmIn, Mir.scpM, Mir.lowU, Mir.lzpM, Mir.lixM, Mir.lixG, Mir.isLsU, Mir.tupC, Mir.wOf, Mir.frzW, Mir.frzC, Mir.dicM, Mir.nddM, Mir.callV, Mir.callM0, Mir.idxM, Mir.fndS, Mir.negG, g1', h0, h0', o1]
  · obtain ⟨d, c2, o1, o2, o3⟩ := odd_ok hc
    refine ⟨d, c2, ?_, o2, pl_up o3 hL⟩
    cases v with
    | int i => exact (hi ⟨i, rfl⟩).elim
    | tup xs => simp [isE] at ht
    | dic _ _ _ => simp [isdic] at hdi
    | scr _ => cases n <;> simp [pl] at hp
    | _ => simp [m__law_bent, run1, Mir.ins1, Mir.seqM, Mir.retM, Mir.retNM, Mir.drpM, Mir.asgM, Mir.ifM, Mir.toS, Mir.namG, Mir.tupG, Mir.allG, Mir.lsuG, Mir.varM, Mir.conM, Mir.op2M, Mir.op1M, Mir.tstM, Mir.andM, Mir.orM, Mir.notM, Mir.andT, Mir.orT, Mir.notT, Mir.iteM, Mir.chM, Mir.biM, Mir.isM, Mir.callM, Mir.callC, Mir.callN, Mir.argsM, Mir.O.bind, Mir.rd, Mir.rds, Mir.pures, Mir.tupM, Mir.lstM, Mir.nlsM, Mir.slM, Mir.noP, Mir.someP, Mir.slG, Mir.lcM, Mir.nlcM, Mir.wipeE, Mir.seqI, Mir.rng1I, Mir.rng2I, Mir.zpBI, Mir.seqU, Mir.strI, Mir.forM, Mir.setM, Mir.setC, Mir.parsM, Mir.setUs, Mir.meM, Mir.joinG, Mir.splG, Mir.lenG, Mir.intG, Mir.strG, Mir.listG, Mir.tupleG, Mir.isdic, Mir.isE, Mir.ixG, Mir.addG, Mir.subG, Mir.mulG, Mir.mulOk, Mir.fdivG, Mir.modG, Mir.powG, Mir.negG, Mir.ltG, Mir.leG, Mir.gtG, Mir.geG, Mir.isG, Mir.isNotG, Mir.isNon, Mir.env0, Mir.ins1, Mir.run0, Mir.run1, Mir.runN, Mir.frz, Mir.nxtM, Mir.unM, Mir.appM, Mir.isLst, Mir.kmIx, Mir.kmIn, Mir.scpM, Mir.lowU, Mir.lzpM, Mir.lixM, Mir.lixG, Mir.isLsU, Mir.tupC, Mir.wOf, Mir.frzW, Mir.frzC, Mir.dicM, Mir.nddM, Mir.callV, Mir.callM0, Mir.idxM, Mir.fndS, Mir.negG, o1]
theorem addI1 (i j : Int) : addG (.int i) (.int j) = some (.int (i + j)) := rfl
theorem bent_ok : ∀ (m n L : Nat) (v : D) (c : Cell), n < m → n + 3 ≤ 60 → 5 ≤ L → L ≤ 60 → pl n L v = true → Sk c → ∃ v' c', Fr__law_bent m [v] c = .ok v' c' ∧ Sk c' ∧ pl (n + 3) (L + 1) v' = true
  | 0, n, L, v, c, hm, _, _, _, _, _ => by omega
  | m + 1, n, L, v, c, hm, hn, hL, hL2, hp, hc => by
    have hdi := isdic_pl hp
    show ∃ v' c', run1 4 0 (m__law_bent (Fr__law_bent m)) [v] c = .ok v' c' ∧ _
    cases ht : isE .tuple v with
    | false => exact bent_odd hc hp hL ht
    | true =>
      obtain ⟨xs, rfl⟩ := tup_of ht
      obtain ⟨n', rfl⟩ := succ_of hp
      obtain ⟨hlen, hall⟩ := pl_tup.mp hp
      have he := eq_nilT hp (by omega)
      have ni : isE .int (.tup xs) = false := rfl
      have tt : isE .tuple (.tup xs) = true := rfl
      have td : isdic (.tup xs) = false := rfl
      cases hx : xs.isEmpty with
      | true =>
        rw [hx] at he
        obtain ⟨d, c2, o1, o2, o3⟩ := odd_ok hc
        refine ⟨d, c2, ?_, o2, pl_up o3 hL⟩
        simp [m__law_bent, run1, Mir.ins1, Mir.seqM, Mir.retM, Mir.retNM, Mir.drpM, Mir.asgM, Mir.ifM, Mir.toS, Mir.namG, Mir.tupG, Mir.allG, Mir.lsuG, Mir.varM, Mir.conM, Mir.op2M, Mir.op1M, Mir.tstM, Mir.andM, Mir.orM, Mir.notM, Mir.andT, Mir.orT, Mir.notT, Mir.iteM, Mir.chM, Mir.biM, Mir.isM, Mir.callM, Mir.callC, Mir.callN, Mir.argsM, Mir.O.bind, Mir.rd, Mir.rds, Mir.pures, Mir.tupM, Mir.lstM, Mir.nlsM, Mir.slM, Mir.noP, Mir.someP, Mir.slG, Mir.lcM, Mir.nlcM, Mir.wipeE, Mir.seqI, Mir.rng1I, Mir.rng2I, Mir.zpBI, Mir.seqU, Mir.strI, Mir.forM, Mir.setM, Mir.setC, Mir.parsM, Mir.setUs, Mir.meM, Mir.joinG, Mir.splG, Mir.lenG, Mir.intG, Mir.strG, Mir.listG, Mir.tupleG, Mir.ixG, Mir.addG, Mir.subG, Mir.mulG, Mir.mulOk, Mir.fdivG, Mir.modG, Mir.powG, Mir.negG, Mir.ltG, Mir.leG, Mir.gtG, Mir.geG, Mir.isG, Mir.isNotG, Mir.isNon, Mir.env0, Mir.ins1, Mir.run0, Mir.run1, Mir.runN, Mir.frz, Mir.nxtM, Mir.unM, Mir.appM, Mir.isLst, Mir.kmIx, Mir.kmIn, Mir.scpM, Mir.lowU, Mir.lzpM, Mir.lixM, Mir.lixG, Mir.isLsU, Mir.tupC, Mir.wOf, Mir.frzW, Mir.frzC, Mir.dicM, Mir.nddM, Mir.callV, Mir.callM0, Mir.idxM, Mir.fndS, tt, td, ni, he, o1]
      | false =>
        rw [hx] at he
        have h0 : 0 < xs.length := by
          cases xs with
          | nil => cases hx
          | cons _ _ => simp
        obtain ⟨r8, c1, g1, g2, g3⟩ := gripN_ok hc (many := 8) (by decide) (by decide)
        have g1' : F__law_grip [.int 8] c = .ok (.int (r8 : Nat)) c1 := g1
        by_cases z8 : r8 = 0
        · subst z8
          obtain ⟨d, c2, o1, o2, o3⟩ := odd_ok g2
          have e8 : eqG (.int ((0 : Nat) : Int)) (.int 0) = some (.bl true) := rfl
          refine ⟨d, c2, ?_, o2, pl_up o3 hL⟩
          have g1'' : F__law_grip [.int 8] c = .ok (.int 0) c1 := g1
          have e8' : eqG (.int 0) (.int 0) = some (.bl true) := rfl
          simp [m__law_bent, run1, Mir.ins1, Mir.seqM, Mir.retM, Mir.retNM, Mir.drpM, Mir.asgM, Mir.ifM, Mir.toS, Mir.namG, Mir.tupG, Mir.allG, Mir.lsuG, Mir.varM, Mir.conM, Mir.op2M, Mir.op1M, Mir.tstM, Mir.andM, Mir.orM, Mir.notM, Mir.andT, Mir.orT, Mir.notT, Mir.iteM, Mir.chM, Mir.biM, Mir.isM, Mir.callM, Mir.callC, Mir.callN, Mir.argsM, Mir.O.bind, Mir.rd, Mir.rds, Mir.pures, Mir.tupM, Mir.lstM, Mir.nlsM, Mir.slM, Mir.noP, Mir.someP, Mir.slG, Mir.lcM, Mir.nlcM, Mir.wipeE, Mir.seqI, Mir.rng1I, Mir.rng2I, Mir.zpBI, Mir.seqU, Mir.strI, Mir.forM, Mir.setM, Mir.setC, Mir.parsM, Mir.setUs, Mir.meM, Mir.joinG, Mir.splG, Mir.lenG, Mir.intG, Mir.strG, Mir.listG, Mir.tupleG, Mir.ixG, Mir.addG, Mir.subG, Mir.mulG, Mir.mulOk, Mir.fdivG, Mir.modG, Mir.powG, Mir.negG, Mir.ltG, Mir.leG, Mir.gtG, Mir.geG, Mir.isG, Mir.isNotG, Mir.isNon, Mir.env0, Mir.ins1, Mir.run0, Mir.run1, Mir.runN, Mir.frz, Mir.nxtM, Mir.unM, Mir.appM, Mir.isLst, Mir.kmIx, Mir.kmIn, Mir.scpM, Mir.lowU, Mir.lzpM, Mir.lixM, Mir.lixG, Mir.isLsU, Mir.tupC, Mir.wOf, Mir.frzW, Mir.frzC, Mir.dicM, Mir.nddM, Mir.callV, Mir.callM0, Mir.idxM, Mir.fndS, tt, td, ni, he, g1'', e8', o1]
        · have e8 : eqG (.int (r8 : Nat)) (.int 0) = some (.bl false) := by rw [eqG_int, beq_eq_false_iff_ne.mpr (by omega)]
          obtain ⟨k, c2, k1, k2, k3⟩ := gripN_ok g2 (many := xs.length) h0 (by omega)
          obtain ⟨y, c3, y1, y2, y3⟩ := gripN_ok k2 (many := 11) (by decide) (by decide)
          have k1' : F__law_grip [.int (xs.length : Nat)] c1 = .ok (.int (k : Nat)) c2 := k1
          have y1' : F__law_grip [.int 11] c2 = .ok (.int (y : Nat)) c3 := y1
          have hl := lenT xs
          have lo := cutD_lo xs k (by omega)
          have lo1 := cutD_lo xs (k + 1) (by omega)
          have hi := cutD_hi xs k (by omega)
          have hi1 := cutD_hi xs (k + 1) (by omega)
          rw [show ((k + 1 : Nat) : Int) = (k : Int) + 1 by omega] at lo1 hi1
          have memT : ∀ z ∈ xs.take k, pl n' L z = true := fun z hz => hall z (List.mem_of_mem_take hz)
          have memT1 : ∀ z ∈ xs.take (k + 1), pl n' L z = true := fun z hz => hall z (List.mem_of_mem_take hz)
          have memD : ∀ z ∈ xs.drop k, pl n' L z = true := fun z hz => hall z (List.mem_of_mem_drop hz)
          have memD1 : ∀ z ∈ xs.drop (k + 1), pl n' L z = true := fun z hz => hall z (List.mem_of_mem_drop hz)
          have up : ∀ z, pl n' L z = true → pl (n' + 3) (L + 1) z = true := fun z h => pl_mono (by omega) (by omega) h
          have mk : ∀ zs : List D, zs.length ≤ L + 1 → (∀ z ∈ zs, pl (n' + 3) (L + 1) z = true) → pl (n' + 1 + 3) (L + 1) (.tup zs) = true := fun zs a b => pl_tup.mpr ⟨a, b⟩
          have nt : ∀ j : Int, (y : Int) = j → eqG (.int (y : Nat)) (.int j) = some (.bl true) := fun j h => by rw [eqG_int, h]; simp
          have nf : ∀ j : Int, ¬ (y : Int) = j → eqG (.int (y : Nat)) (.int j) = some (.bl false) := fun j h => by rw [eqG_int, beq_eq_false_iff_ne.mpr h]
          by_cases w0 : (y : Int) = 0
          · have a := addT (xs := xs.take k) (ys := xs.drop (k + 1)) (by simp; omega)
            refine ⟨.tup (xs.take k ++ xs.drop (k + 1)), c3, ?_, y2, mk _ (by simp; omega) fun z hz => ?_⟩
            · simp [m__law_bent, run1, Mir.ins1, Mir.seqM, Mir.retM, Mir.retNM, Mir.drpM, Mir.asgM, Mir.ifM, Mir.toS, Mir.namG, Mir.tupG, Mir.allG, Mir.lsuG, Mir.varM, Mir.conM, Mir.op2M, Mir.op1M, Mir.tstM, Mir.andM, Mir.orM, Mir.notM, Mir.andT, Mir.orT, Mir.notT, Mir.iteM, Mir.chM, Mir.biM, Mir.isM, Mir.callM, Mir.callC, Mir.callN, Mir.argsM, Mir.O.bind, Mir.rd, Mir.rds, Mir.pures, Mir.tupM, Mir.lstM, Mir.nlsM, Mir.slM, Mir.noP, Mir.someP, Mir.lcM, Mir.nlcM, Mir.wipeE, Mir.seqI, Mir.rng1I, Mir.rng2I, Mir.zpBI, Mir.seqU, Mir.strI, Mir.forM, Mir.setM, Mir.setC, Mir.parsM, Mir.setUs, Mir.meM, Mir.joinG, Mir.splG, Mir.intG, Mir.strG, Mir.listG, Mir.tupleG, Mir.ixG, Mir.subG, Mir.mulG, Mir.mulOk, Mir.fdivG, Mir.modG, Mir.powG, Mir.negG, Mir.ltG, Mir.leG, Mir.gtG, Mir.geG, Mir.isG, Mir.isNotG, Mir.isNon, Mir.env0, Mir.ins1, Mir.run0, Mir.run1, Mir.runN, Mir.frz, Mir.nxtM, Mir.unM, Mir.appM, Mir.isLst, Mir.kmIx, Mir.kmIn, Mir.scpM, Mir.lowU, Mir.lzpM, Mir.lixM, Mir.lixG, Mir.isLsU, Mir.tupC, Mir.wOf, Mir.frzW, Mir.frzC, Mir.dicM, Mir.nddM, Mir.callV, Mir.callM0, Mir.idxM, Mir.fndS, tt, td, he, g1', e8, hl, k1', y1', Mir.setUs, nt 0 w0, lo, hi1, a, addI1]
            · rcases List.mem_append.mp hz with h | h
              · exact up z (memT z h)
              · exact up z (memD1 z h)
          · by_cases w1 : (y : Int) = 1
            · have a := addT (xs := xs.take (k + 1)) (ys := xs.drop k) (by simp; omega)
              refine ⟨.tup (xs.take (k + 1) ++ xs.drop k), c3, ?_, y2, mk _ (by simp; omega) fun z hz => ?_⟩
              · simp [m__law_bent, run1, Mir.ins1, Mir.seqM, Mir.retM, Mir.retNM, Mir.drpM, Mir.asgM, Mir.ifM, Mir.toS, Mir.namG, Mir.tupG, Mir.allG, Mir.lsuG, Mir.varM, Mir.conM, Mir.op2M, Mir.op1M, Mir.tstM, Mir.andM, Mir.orM, Mir.notM, Mir.andT, Mir.orT, Mir.notT, Mir.iteM, Mir.chM, Mir.biM, Mir.isM, Mir.callM, Mir.callC, Mir.callN, Mir.argsM, Mir.O.bind, Mir.rd, Mir.rds, Mir.pures, Mir.tupM, Mir.lstM, Mir.nlsM, Mir.slM, Mir.noP, Mir.someP, Mir.lcM, Mir.nlcM, Mir.wipeE, Mir.seqI, Mir.rng1I, Mir.rng2I, Mir.zpBI, Mir.seqU, Mir.strI, Mir.forM, Mir.setM, Mir.setC, Mir.parsM, Mir.setUs, Mir.meM, Mir.joinG, Mir.splG, Mir.intG, Mir.strG, Mir.listG, Mir.tupleG, Mir.ixG, Mir.subG, Mir.mulG, Mir.mulOk, Mir.fdivG, Mir.modG, Mir.powG, Mir.negG, Mir.ltG, Mir.leG, Mir.gtG, Mir.geG, Mir.isG, Mir.isNotG, Mir.isNon, Mir.env0, Mir.ins1, Mir.run0, Mir.run1, Mir.runN, Mir.frz, Mir.nxtM, Mir.unM, Mir.appM, Mir.isLst, Mir.kmIx, Mir.kmIn, Mir.scpM, Mir.lowU, Mir.lzpM, Mir.lixM, Mir.lixG, Mir.isLsU, Mir.tupC, Mir.wOf, Mir.frzW, Mir.frzC, Mir.dicM, Mir.nddM, Mir.callV, Mir.callM0, Mir.idxM, Mir.fndS, tt, td, he, g1', e8, hl, k1', y1', Mir.setUs, nf 0 w0, nt 1 w1, lo1, hi, a, addI1]
              · rcases List.mem_append.mp hz with h | h
                · exact up z (memT1 z h)
                · exact up z (memD z h)
            · by_cases w2 : (y : Int) = 2
              · obtain ⟨d, c4, o1, o2, o3⟩ := odd_ok y2
                have a := addT (xs := xs.take k) (ys := [d]) (by simp; omega)
                have a2 := addT (xs := xs.take k ++ [d]) (ys := xs.drop k) (by simp; omega)
                refine ⟨.tup (xs.take k ++ [d] ++ xs.drop k), c4, ?_, o2, mk _ (by simp; omega) fun z hz => ?_⟩
                · simp [m__law_bent, run1, Mir.ins1, Mir.seqM, Mir.retM, Mir.retNM, Mir.drpM, Mir.asgM, Mir.ifM, Mir.toS, Mir.namG, Mir.tupG, Mir.allG, Mir.lsuG, Mir.varM, Mir.conM, Mir.op2M, Mir.op1M, Mir.tstM, Mir.andM, Mir.orM, Mir.notM, Mir.andT, Mir.orT, Mir.notT, Mir.iteM, Mir.chM, Mir.biM, Mir.isM, Mir.callM, Mir.callC, Mir.callN, Mir.argsM, Mir.O.bind, Mir.rd, Mir.rds, Mir.pures, Mir.tupM, Mir.lstM, Mir.nlsM, Mir.slM, Mir.noP, Mir.someP, Mir.lcM, Mir.nlcM, Mir.wipeE, Mir.seqI, Mir.rng1I, Mir.rng2I, Mir.zpBI, Mir.seqU, Mir.strI, Mir.forM, Mir.setM, Mir.setC, Mir.parsM, Mir.setUs, Mir.meM, Mir.joinG, Mir.splG, Mir.intG, Mir.strG, Mir.listG, Mir.tupleG, Mir.ixG, Mir.subG, Mir.mulG, Mir.mulOk, Mir.fdivG, Mir.modG, Mir.powG, Mir.negG, Mir.ltG, Mir.leG, Mir.gtG, Mir.geG, Mir.isG, Mir.isNotG, Mir.isNon, Mir.env0, Mir.ins1, Mir.run0, Mir.run1, Mir.runN, Mir.frz, Mir.nxtM, Mir.unM, Mir.appM, Mir.isLst, Mir.kmIx, Mir.kmIn, Mir.scpM, Mir.lowU, Mir.lzpM, Mir.lixM, Mir.lixG, Mir.isLsU, Mir.tupC, Mir.wOf, Mir.frzW, Mir.frzC, Mir.dicM, Mir.nddM, Mir.callV, Mir.callM0, Mir.idxM, Mir.fndS, tt, td, he, g1', e8, hl, k1', y1', Mir.setUs, nf 0 w0, nf 1 w1, nt 2 w2, lo, hi, a, a2, o1, -List.append_assoc]
                · rcases List.mem_append.mp hz with h | h
                  · rcases List.mem_append.mp h with h | h
                    · exact up z (memT z h)
                    · have : z = d := by simpa using h
                      subst this
                      exact pl_up o3 hL
                  · exact up z (memD z h)
              · by_cases w3 : (y : Int) = 3
                · refine ⟨.lst xs, c3, ?_, y2, pl_lst.mpr ⟨by omega, fun z hz => up z (hall z hz)⟩⟩
                  simp [m__law_bent, run1, Mir.ins1, Mir.seqM, Mir.retM, Mir.retNM, Mir.drpM, Mir.asgM, Mir.ifM, Mir.toS, Mir.namG, Mir.tupG, Mir.allG, Mir.lsuG, Mir.varM, Mir.conM, Mir.op2M, Mir.op1M, Mir.tstM, Mir.andM, Mir.orM, Mir.notM, Mir.andT, Mir.orT, Mir.notT, Mir.iteM, Mir.chM, Mir.biM, Mir.isM, Mir.callM, Mir.callC, Mir.callN, Mir.argsM, Mir.O.bind, Mir.rd, Mir.rds, Mir.pures, Mir.tupM, Mir.lstM, Mir.nlsM, Mir.slM, Mir.noP, Mir.someP, Mir.lcM, Mir.nlcM, Mir.wipeE, Mir.seqI, Mir.rng1I, Mir.rng2I, Mir.zpBI, Mir.seqU, Mir.strI, Mir.forM, Mir.setM, Mir.setC, Mir.parsM, Mir.setUs, Mir.meM, Mir.joinG, Mir.splG, Mir.intG, Mir.strG, Mir.listG, Mir.tupleG, Mir.ixG, Mir.subG, Mir.mulG, Mir.mulOk, Mir.fdivG, Mir.modG, Mir.powG, Mir.negG, Mir.ltG, Mir.leG, Mir.gtG, Mir.geG, Mir.isG, Mir.isNotG, Mir.isNon, Mir.env0, Mir.ins1, Mir.run0, Mir.run1, Mir.runN, Mir.frz, Mir.nxtM, Mir.unM, Mir.appM, Mir.isLst, Mir.kmIx, Mir.kmIn, Mir.scpM, Mir.lowU, Mir.lzpM, Mir.lixM, Mir.lixG, Mir.isLsU, Mir.tupC, Mir.wOf, Mir.frzW, Mir.frzC, Mir.dicM, Mir.nddM, Mir.callV, Mir.callM0, Mir.idxM, Mir.fndS, tt, td, he, g1', e8, hl, k1', y1', Mir.setUs, nf 0 w0, nf 1 w1, nf 2 w2, nt 3 w3]
                · have hk : pl n' L xs[k] = true := hall _ (List.getElem_mem k3)
                  obtain ⟨d, c4, o1, o2, o3⟩ := bent_ok m n' L xs[k] c3 (by omega) (by omega) hL hL2 hk y2
                  have ix : ixG (.tup xs) (.int (k : Nat)) = some xs[k] := by
                    show L2.atI xs (k : Int) = _
                    rw [atI_nat (v := xs[k]) (List.getElem?_eq_getElem k3)]
                  have a := addT (xs := xs.take k) (ys := [d]) (by simp; omega)
                  have a2 := addT (xs := xs.take k ++ [d]) (ys := xs.drop (k + 1)) (by simp; omega)
                  refine ⟨.tup (xs.take k ++ [d] ++ xs.drop (k + 1)), c4, ?_, o2, mk _ (by simp; omega) fun z hz => ?_⟩
                  · simp [m__law_bent, run1, Mir.ins1, Mir.seqM, Mir.retM, Mir.retNM, Mir.drpM, Mir.asgM, Mir.ifM, Mir.toS, Mir.namG, Mir.tupG, Mir.allG, Mir.lsuG, Mir.varM, Mir.conM, Mir.op2M, Mir.op1M, Mir.tstM, Mir.andM, Mir.orM, Mir.notM, Mir.andT, Mir.orT, Mir.notT, Mir.iteM, Mir.chM, Mir.biM, Mir.isM, Mir.callM, Mir.callC, Mir.callN, Mir.argsM, Mir.O.bind, Mir.rd, Mir.rds, Mir.pures, Mir.tupM, Mir.lstM, Mir.nlsM, Mir.slM, Mir.noP, Mir.someP, Mir.lcM, Mir.nlcM, Mir.wipeE, Mir.seqI, Mir.rng1I, Mir.rng2I, Mir.zpBI, Mir.seqU, Mir.strI, Mir.forM, Mir.setM, Mir.setC, Mir.parsM, Mir.setUs, Mir.meM, Mir.joinG, Mir.splG, Mir.intG, Mir.strG, Mir.listG, Mir.tupleG, Mir.subG, Mir.mulG, Mir.mulOk, Mir.fdivG, Mir.modG, Mir.powG, Mir.negG, Mir.ltG, Mir.leG, Mir.gtG, Mir.geG, Mir.isG, Mir.isNotG, Mir.isNon, Mir.env0, Mir.ins1, Mir.run0, Mir.run1, Mir.runN, Mir.frz, Mir.nxtM, Mir.unM, Mir.appM, Mir.isLst, Mir.kmIx, Mir.kmIn, Mir.scpM, Mir.lowU, Mir.lzpM, Mir.lixM, Mir.lixG, Mir.isLsU, Mir.tupC, Mir.wOf, Mir.frzW, Mir.frzC, Mir.dicM, Mir.nddM, Mir.callV, Mir.callM0, Mir.idxM, Mir.fndS, tt, td, he, g1', e8, hl, k1', y1', Mir.setUs, nf 0 w0, nf 1 w1, nf 2 w2, nf 3 w3, lo, hi1, ix, a, a2, o1, addI1, -List.append_assoc]
                  · rcases List.mem_append.mp hz with h | h
                    · rcases List.mem_append.mp h with h | h
                      · exact up z (memT z h)
                      · have : z = d := by simpa using h
                        subst this
                        exact o3
                    · exact up z (memD1 z h)

/-! ### the script's first numbers; names that hold data -/
def dd (x : Option D) : Option U := x.map .d
theorem dd_some (d : D) : dd (some d) = some (.d d) := rfl
theorem low_dd {n : Nat} {x : Option D} : lowU n (dd x) = true := by cases x <;> rfl
def IsScr (ns : List Int) (d : D) : Prop := d = .scr ns ∨ d = .lst (ns.map D.int)
theorem first_it {ns : List Int} {d : D} (h : IsScr ns d) (hl : ns.length ≤ 63) (k : Nat) {ρ : Mir.Env} {S : Sto} (h0 : ρ[0]? = some (some (.d d))) :
    (seqI (slM (op2M addG (lstM [(conM (.int 0))]) (varM 0)) noP (someP (conM (.int (k : Int)))))) ρ S = .ok (((0 :: ns).take k).map D.int) S := by
  have hadd : addG (.lst [.int 0]) d = some (.lst ((0 :: ns).map D.int)) := by
    have hb : 1 + ns.length ≤ big := by unfold big; omega
    rcases h with h | h <;> subst h <;> simp [addG, hb]
  have hcut : slG (.lst ((0 :: ns).map D.int)) none (some (k : Int)) = some (.lst (((0 :: ns).take k).map D.int)) := by
    simp only [slG, cutL, HT.sIx, List.drop_zero, Nat.sub_zero]
    rw [if_neg (by omega)]
    have h10 : ((k : Int)).toNat = k := by omega
    rw [h10, List.map_take]
    congr 2
    rcases Nat.le_total k ((0 :: ns).map D.int).length with h | h
    · rw [Nat.min_eq_left h]
    · rw [Nat.min_eq_right h, List.take_of_length_le (Nat.le_refl _), List.take_of_length_le h]
  simp [Mir.seqI, Mir.slM, Mir.op2M, Mir.lstM, Mir.argsM, Mir.conM, Mir.varM, Mir.noP, Mir.someP, O.bind, h0, Mir.pures, Mir.rd, hadd, -List.map_cons]
  rw [hcut]
  simp only [List.map_take]

/-! ### roads -/
structure Rd where
  ks : List Knd
  bg : List Nat
  wd : List Nat
  en : List Nat
structure GoodR (r : Rd) : Prop where
  g : GoodKs r.ks
  b : GoodC r.ks r.bg
  w : GoodC r.ks r.wd
  e : GoodC r.ks r.en
  lb : r.bg.length ≤ 4
  lw : 1 ≤ r.wd.length
  lw4 : r.wd.length ≤ 4
  le : r.en.length ≤ 4
def roadD (r : Rd) : D := .tup [kindsD r.ks, ptD r.bg, ptD r.wd, ptD r.en]
theorem len_pt (b : List Nat) : lenG [ptD b] = some (.int (b.length : Nat)) := by simp [lenG, ptD]
theorem pt_cl {n : Nat} (b : List Nat) : cl (n + 1) (ptD b) = true := by
  have := cl_ints (n := n) (b.map fun i : Nat => (i : Int))
  rw [List.map_map] at this
  exact this
theorem pt_ix {b : List Nat} {i : Nat} (h : i < b.length) : ixG (ptD b) (.int (i : Nat)) = some (natD b[i]) := by
  show L2.atI (b.map natD) (i : Int) = _
  rw [atI_nat (v := natD b[i]) (by simp [h])]
theorem road_sl (r : Rd) : slG (roadD r) (some 1) none = some (.tup [ptD r.bg, ptD r.wd, ptD r.en]) := rfl
theorem road_ix (r : Rd) : ixG (roadD r) (.int 0) = some (kindsD r.ks) ∧ ixG (roadD r) (.int 1) = some (ptD r.bg) ∧ ixG (roadD r) (.int 2) = some (ptD r.wd) ∧ ixG (roadD r) (.int 3) = some (ptD r.en) := ⟨rfl, rfl, rfl, rfl⟩
section
variable {r : Rd}
theorem road_is (g : GoodR r) : F_is_road_of [roadD r] = .ok (.bl true) := by
  obtain ⟨x0, x1, x2, x3⟩ := road_ix r
  have hC : C_is_road_of_1 [some (.d (roadD r)), none] [] = .ok (.d (.lst (([r.bg, r.wd, r.en] : List (List Nat)).map fun _ => D.bl true))) [] :=
    lcM_map ptD (fun _ => D.bl true) (by simp [Mir.seqM, Mir.retM, Mir.retNM, Mir.drpM, Mir.asgM, Mir.ifM, Mir.toS, Mir.namG, Mir.tupG, Mir.allG, Mir.lsuG, Mir.varM, Mir.conM, Mir.op2M, Mir.op1M, Mir.tstM, Mir.andM, Mir.orM, Mir.notM, Mir.andT, Mir.orT, Mir.notT, Mir.iteM, Mir.chM, Mir.biM, Mir.isM, Mir.callM, Mir.callC, Mir.callN, Mir.argsM, Mir.O.bind, Mir.rd, Mir.rds, Mir.pures, Mir.tupM, Mir.lstM, Mir.nlsM, Mir.slM, Mir.noP, Mir.someP, Mir.lcM, Mir.nlcM, Mir.wipeE, Mir.seqI, Mir.rng1I, Mir.rng2I, Mir.zpBI, Mir.seqU, Mir.strI, Mir.forM, Mir.setM, Mir.setC, Mir.parsM, Mir.setUs, Mir.meM, Mir.joinG, Mir.splG, Mir.lenG, Mir.intG, Mir.strG, Mir.listG, Mir.tupleG, Mir.isdic, Mir.isE, Mir.ixG, Mir.addG, Mir.subG, Mir.mulG, Mir.mulOk, Mir.fdivG, Mir.modG, Mir.powG, Mir.negG, Mir.ltG, Mir.leG, Mir.gtG, Mir.geG, Mir.isG, Mir.isNotG, Mir.isNon, Mir.env0, Mir.ins1, Mir.run0, Mir.run1, Mir.runN, Mir.frz, Mir.nxtM, Mir.unM, Mir.appM, Mir.isLst, Mir.kmIx, Mir.kmIn, Mir.scpM, Mir.lowU, Mir.lzpM, Mir.lixM, Mir.lixG, Mir.isLsU, Mir.tupC, Mir.wOf, Mir.frzW, Mir.frzC, Mir.dicM, Mir.nddM, Mir.callV, Mir.callM0, Mir.idxM, Mir.fndS, road_sl]) (big_of (by simp)) fun b hb => ⟨_, rfl, rfl, by
      have e : F_is_stretch_of [kindsD r.ks, ptD b, .int 4] = .ok (.bl true) := by
        simp only [List.mem_cons, List.not_mem_nil, or_false] at hb
        rcases hb with rfl | rfl | rfl
        · exact part_is g.g (by have := g.lb; omega) (by decide) g.b
        · exact part_is g.g (by have := g.lw4; omega) (by decide) g.w
        · exact part_is g.g (by have := g.le; omega) (by decide) g.e
      simp [Mir.seqM, Mir.retM, Mir.retNM, Mir.drpM, Mir.asgM, Mir.ifM, Mir.toS, Mir.namG, Mir.tupG, Mir.allG, Mir.lsuG, Mir.varM, Mir.conM, Mir.op2M, Mir.op1M, Mir.tstM, Mir.andM, Mir.orM, Mir.notM, Mir.andT, Mir.orT, Mir.notT, Mir.iteM, Mir.chM, Mir.biM, Mir.isM, Mir.callM, Mir.callC, Mir.callN, Mir.argsM, Mir.O.bind, Mir.rd, Mir.rds, Mir.pures, Mir.tupM, Mir.lstM, Mir.nlsM, Mir.slM, Mir.noP, Mir.someP, Mir.slG, Mir.lcM, Mir.nlcM, Mir.wipeE, Mir.seqI, Mir.rng1I, Mir.rng2I, Mir.zpBI, Mir.seqU, Mir.strI, Mir.forM, Mir.setM, Mir.setC, Mir.parsM, Mir.setUs, Mir.meM, Mir.joinG, Mir.splG, Mir.lenG, Mir.intG, Mir.strG, Mir.listG, Mir.tupleG, Mir.isdic, Mir.isE, Mir.addG, Mir.subG, Mir.mulG, Mir.mulOk, Mir.fdivG, Mir.modG, Mir.powG, Mir.negG, Mir.ltG, Mir.leG, Mir.gtG, Mir.geG, Mir.isG, Mir.isNotG, Mir.isNon, Mir.env0, Mir.ins1, Mir.run0, Mir.run1, Mir.runN, Mir.frz, Mir.nxtM, Mir.unM, Mir.appM, Mir.isLst, Mir.kmIx, Mir.kmIn, Mir.scpM, Mir.lowU, Mir.lzpM, Mir.lixM, Mir.lixG, Mir.isLsU, Mir.tupC, Mir.wOf, Mir.frzW, Mir.frzC, Mir.dicM, Mir.nddM, Mir.callV, Mir.callM0, Mir.idxM, Mir.fndS, x0, e]⟩
  have ha : Mir.allB [.lst [.bl true, .bl true, .bl true]] = some (.bl true) := rfl
  have hn : neG (ptD r.wd) (.tup []) = some (.bl true) := by
    have := neG_nil (n := 1) (xs := r.wd.map natD) (pt_cl r.wd)
    have e : (r.wd.map natD).isEmpty = false := by
      have := g.lw
      cases h : r.wd with
      | nil => rw [h] at this; cases this
      | cons _ _ => rfl
    rw [e] at this
    exact this
  have hk := kinds_are g.g
  have l4 : lenG [roadD r] = some (.int 4) := rfl
  have ti : isE .tuple (roadD r) = true := rfl
  have td : isdic (roadD r) = false := rfl
  simp [F_is_road_of, m_is_road_of, Mir.seqM, Mir.retM, Mir.retNM, Mir.drpM, Mir.asgM, Mir.ifM, Mir.toS, Mir.namG, Mir.tupG, Mir.allG, Mir.lsuG, Mir.varM, Mir.conM, Mir.op2M, Mir.op1M, Mir.tstM, Mir.andM, Mir.orM, Mir.notM, Mir.andT, Mir.orT, Mir.notT, Mir.iteM, Mir.chM, Mir.biM, Mir.isM, Mir.callM, Mir.callC, Mir.callN, Mir.argsM, Mir.O.bind, Mir.rd, Mir.rds, Mir.pures, Mir.tupM, Mir.lstM, Mir.nlsM, Mir.slM, Mir.noP, Mir.someP, Mir.slG, Mir.lcM, Mir.nlcM, Mir.wipeE, Mir.seqI, Mir.rng1I, Mir.rng2I, Mir.zpBI, Mir.seqU, Mir.strI, Mir.forM, Mir.setM, Mir.setC, Mir.parsM, Mir.setUs, Mir.meM, Mir.joinG, Mir.splG, Mir.intG, Mir.strG, Mir.listG, Mir.tupleG, Mir.addG, Mir.subG, Mir.mulG, Mir.mulOk, Mir.fdivG, Mir.modG, Mir.powG, Mir.negG, Mir.ltG, Mir.leG, Mir.gtG, Mir.geG, Mir.isG, Mir.isNotG, Mir.isNon, Mir.env0, Mir.ins1, Mir.run0, Mir.run1, Mir.runN, Mir.frz, Mir.nxtM, Mir.unM, Mir.appM, Mir.isLst, Mir.kmIx, Mir.kmIn, Mir.scpM, Mir.lowU, Mir.lzpM, Mir.lixM, Mir.lixG, Mir.isLsU, Mir.tupC, Mir.wOf, Mir.frzW, Mir.frzC, Mir.dicM, Mir.nddM, Mir.callV, Mir.callM0, Mir.idxM, Mir.fndS, hC, ha, hn, hk, x0, x2, l4, ti, td, neG_int]
theorem need_road_ok (g : GoodR r) : F_need_road [roadD r] = .ok .non := by
  simp [F_need_road, m_need_road, Mir.seqM, Mir.retM, Mir.retNM, Mir.drpM, Mir.asgM, Mir.ifM, Mir.toS, Mir.namG, Mir.tupG, Mir.allG, Mir.lsuG, Mir.varM, Mir.conM, Mir.op2M, Mir.op1M, Mir.tstM, Mir.andM, Mir.orM, Mir.notM, Mir.andT, Mir.orT, Mir.notT, Mir.iteM, Mir.chM, Mir.biM, Mir.isM, Mir.callM, Mir.callC, Mir.callN, Mir.argsM, Mir.O.bind, Mir.rd, Mir.rds, Mir.pures, Mir.tupM, Mir.lstM, Mir.nlsM, Mir.slM, Mir.noP, Mir.someP, Mir.slG, Mir.lcM, Mir.nlcM, Mir.wipeE, Mir.seqI, Mir.rng1I, Mir.rng2I, Mir.zpBI, Mir.seqU, Mir.strI, Mir.forM, Mir.setM, Mir.setC, Mir.parsM, Mir.setUs, Mir.meM, Mir.joinG, Mir.splG, Mir.lenG, Mir.intG, Mir.strG, Mir.listG, Mir.tupleG, Mir.isdic, Mir.isE, Mir.ixG, Mir.addG, Mir.subG, Mir.mulG, Mir.mulOk, Mir.fdivG, Mir.modG, Mir.powG, Mir.negG, Mir.ltG, Mir.leG, Mir.gtG, Mir.geG, Mir.isG, Mir.isNotG, Mir.isNon, Mir.env0, Mir.ins1, Mir.run0, Mir.run1, Mir.runN, Mir.frz, Mir.nxtM, Mir.unM, Mir.appM, Mir.isLst, Mir.kmIx, Mir.kmIn, Mir.scpM, Mir.lowU, Mir.lzpM, Mir.lixM, Mir.lixG, Mir.isLsU, Mir.tupC, Mir.wOf, Mir.frzW, Mir.frzC, Mir.dicM, Mir.nddM, Mir.callV, Mir.callM0, Mir.idxM, Mir.fndS, road_is g]
def lenR (r : Rd) (k : Nat) : Nat := r.bg.length + k * r.wd.length + r.en.length
theorem mul_pt {k n : Nat} (h : n ≤ 4) : mulG (.int (k : Nat)) (.int (n : Nat)) = some (.int ((k * n : Nat) : Int)) := by
  have : mulOk (k : Int) (n : Int) = true := by
    unfold mulOk
    rw [Bool.or_eq_true]
    right
    exact decide_eq_true (by omega)
  simp [Mir.mulG, this]
theorem length_ok (g : GoodR r) (k : Nat) : F_length_of [roadD r, .int (k : Nat)] = .ok (.int (lenR r k : Nat)) := by
  obtain ⟨x0, x1, x2, x3⟩ := road_ix r
  have m := mul_pt (k := k) g.lw4
  simp [F_length_of, m_length_of, Mir.seqM, Mir.retM, Mir.retNM, Mir.drpM, Mir.asgM, Mir.ifM, Mir.toS, Mir.namG, Mir.tupG, Mir.allG, Mir.lsuG, Mir.varM, Mir.conM, Mir.op2M, Mir.op1M, Mir.tstM, Mir.andM, Mir.orM, Mir.notM, Mir.andT, Mir.orT, Mir.notT, Mir.iteM, Mir.chM, Mir.biM, Mir.isM, Mir.callM, Mir.callC, Mir.callN, Mir.argsM, Mir.O.bind, Mir.rd, Mir.rds, Mir.pures, Mir.tupM, Mir.lstM, Mir.nlsM, Mir.slM, Mir.noP, Mir.someP, Mir.slG, Mir.lcM, Mir.nlcM, Mir.wipeE, Mir.seqI, Mir.rng1I, Mir.rng2I, Mir.zpBI, Mir.seqU, Mir.strI, Mir.forM, Mir.setM, Mir.setC, Mir.parsM, Mir.setUs, Mir.meM, Mir.joinG, Mir.splG, Mir.intG, Mir.strG, Mir.listG, Mir.tupleG, Mir.isdic, Mir.isE, Mir.addG, Mir.subG, Mir.mulOk, Mir.fdivG, Mir.modG, Mir.powG, Mir.negG, Mir.ltG, Mir.leG, Mir.gtG, Mir.geG, Mir.isG, Mir.isNotG, Mir.isNon, Mir.env0, Mir.ins1, Mir.run0, Mir.run1, Mir.runN, Mir.frz, Mir.nxtM, Mir.unM, Mir.appM, Mir.isLst, Mir.kmIx, Mir.kmIn, Mir.scpM, Mir.lowU, Mir.lzpM, Mir.lixM, Mir.lixG, Mir.isLsU, Mir.tupC, Mir.wOf, Mir.frzW, Mir.frzC, Mir.dicM, Mir.nddM, Mir.callV, Mir.callM0, Mir.idxM, Mir.fndS, x1, x2, x3, len_pt, m, lenR]
end

/-! ### cells of a road -/
theorem rep_flat_len (w : List Nat) (k : Nat) : (List.replicate k w).flatten.length = k * w.length := by
  induction k with
  | zero => simp
  | succ k ih => rw [List.replicate_succ, List.flatten_cons, List.length_append, ih, Nat.succ_mul, Nat.add_comm]
theorem addP {a b : List Nat} (h : a.length + b.length ≤ 1000) : addG (ptD a) (ptD b) = some (ptD (a ++ b)) := by
  have := addT (xs := a.map natD) (ys := b.map natD) (by simpa using h)
  rw [← List.map_append] at this
  exact this
theorem mulP {w : List Nat} {k : Nat} (h : k ≤ 1000) (hw : w.length ≤ 4) : mulG (ptD w) (.int (k : Nat)) = some (ptD (List.replicate k w).flatten) := by
  show (if -1000 ≤ (k : Int) ∧ (k : Int) ≤ 1000 ∧ (w.map natD).length ≤ 1000 then some (D.tup (List.replicate (k : Int).toNat (w.map natD)).flatten) else none) = _
  rw [if_pos ⟨by omega, by omega, by rw [List.length_map]; omega⟩]
  unfold ptD
  rw [List.map_flatten, List.map_replicate]
  rfl
def cellsL (r : Rd) (k : Nat) : List Nat := r.bg ++ (List.replicate k r.wd).flatten ++ r.en
section
variable {r : Rd}
theorem rsum (g : GoodR r) {k : Nat} (h : lenR r k ≤ 200) : k ≤ 200 ∧ mulG (ptD r.wd) (.int (k : Nat)) = some (ptD (List.replicate k r.wd).flatten) ∧ addG (ptD r.bg) (ptD (List.replicate k r.wd).flatten) = some (ptD (r.bg ++ (List.replicate k r.wd).flatten)) ∧
    addG (ptD (r.bg ++ (List.replicate k r.wd).flatten)) (ptD r.en) = some (ptD (cellsL r k)) := by
  unfold lenR at h
  have hk : k ≤ k * r.wd.length := Nat.le_mul_of_pos_right k g.lw
  have hf := rep_flat_len r.wd k
  exact ⟨by omega, mulP (by omega) g.lw4, addP (by omega), addP (by rw [List.length_append]; omega)⟩
theorem rcells_ok (g : GoodR r) {k : Nat} (h : lenR r k ≤ 200) : F_cells [roadD r, .int (k : Nat)] = .ok (ptD (cellsL r k)) := by
  obtain ⟨hk, m, a1, a2⟩ := rsum g h
  obtain ⟨x0, x1, x2, x3⟩ := road_ix r
  have h1 := need_road_ok g
  have h2 : F_need_number [.int (k : Nat), .int 0, .int 1000000000000000000000000000000] = .ok .non := by
    have := isnum_ok (i := (k : Int)) (lo := 0) (hi := 1000000000000000000000000000000) (by omega)
    simp [F_need_number, m_need_number, Mir.seqM, Mir.retM, Mir.retNM, Mir.drpM, Mir.asgM, Mir.ifM, Mir.toS, Mir.namG, Mir.tupG, Mir.allG, Mir.lsuG, Mir.varM, Mir.conM, Mir.op2M, Mir.op1M, Mir.tstM, Mir.andM, Mir.orM, Mir.notM, Mir.andT, Mir.orT, Mir.notT, Mir.iteM, Mir.chM, Mir.biM, Mir.isM, Mir.callM, Mir.callC, Mir.callN, Mir.argsM, Mir.O.bind, Mir.rd, Mir.rds, Mir.pures, Mir.tupM, Mir.lstM, Mir.nlsM, Mir.slM, Mir.noP, Mir.someP, Mir.slG, Mir.lcM, Mir.nlcM, Mir.wipeE, Mir.seqI, Mir.rng1I, Mir.rng2I, Mir.zpBI, Mir.seqU, Mir.strI, Mir.forM, Mir.setM, Mir.setC, Mir.parsM, Mir.setUs, Mir.meM, Mir.joinG, Mir.splG, Mir.lenG, Mir.intG, Mir.strG, Mir.listG, Mir.tupleG, Mir.isdic, Mir.isE, Mir.ixG, Mir.addG, Mir.subG, Mir.mulG, Mir.mulOk, Mir.fdivG, Mir.modG, Mir.powG, Mir.negG, Mir.ltG, Mir.leG, Mir.gtG, Mir.geG, Mir.isG, Mir.isNotG, Mir.isNon, Mir.env0, Mir.ins1, Mir.run0, Mir.run1, Mir.runN, Mir.frz, Mir.nxtM, Mir.unM, Mir.appM, Mir.isLst, Mir.kmIx, Mir.kmIn, Mir.scpM, Mir.lowU, Mir.lzpM, Mir.lixM, Mir.lixG, Mir.isLsU, Mir.tupC, Mir.wOf, Mir.frzW, Mir.frzC, Mir.dicM, Mir.nddM, Mir.callV, Mir.callM0, Mir.idxM, Mir.fndS, this]
  have h3 := length_ok g k
  have h4 : ¬ (200 : Int) < (lenR r k : Int) := by omega
  have h5 : F_cells_of [roadD r, .int (k : Nat)] = .ok (ptD (cellsL r k)) := by
    simp [F_cells_of, m_cells_of, Mir.seqM, Mir.retM, Mir.retNM, Mir.drpM, Mir.asgM, Mir.ifM, Mir.toS, Mir.namG, Mir.tupG, Mir.allG, Mir.lsuG, Mir.varM, Mir.conM, Mir.op2M, Mir.op1M, Mir.tstM, Mir.andM, Mir.orM, Mir.notM, Mir.andT, Mir.orT, Mir.notT, Mir.iteM, Mir.chM, Mir.biM, Mir.isM, Mir.callM, Mir.callC, Mir.callN, Mir.argsM, Mir.O.bind, Mir.rd, Mir.rds, Mir.pures, Mir.tupM, Mir.lstM, Mir.nlsM, Mir.slM, Mir.noP, Mir.someP, Mir.slG, Mir.lcM, Mir.nlcM, Mir.wipeE, Mir.seqI, Mir.rng1I, Mir.rng2I, Mir.zpBI, Mir.seqU, Mir.strI, Mir.forM, Mir.setM, Mir.setC, Mir.parsM, Mir.setUs, Mir.meM, Mir.joinG, Mir.splG, Mir.lenG, Mir.intG, Mir.strG, Mir.listG, Mir.tupleG, Mir.isdic, Mir.isE, Mir.subG, Mir.mulOk, Mir.fdivG, Mir.modG, Mir.powG, Mir.negG, Mir.ltG, Mir.leG, Mir.gtG, Mir.geG, Mir.isG, Mir.isNotG, Mir.isNon, Mir.env0, Mir.ins1, Mir.run0, Mir.run1, Mir.runN, Mir.frz, Mir.nxtM, Mir.unM, Mir.appM, Mir.isLst, Mir.kmIx, Mir.kmIn, Mir.scpM, Mir.lowU, Mir.lzpM, Mir.lixM, Mir.lixG, Mir.isLsU, Mir.tupC, Mir.wOf, Mir.frzW, Mir.frzC, Mir.dicM, Mir.nddM, Mir.callV, Mir.callM0, Mir.idxM, Mir.fndS, x1, x2, x3, m, a1, a2]
  simp [F_cells, m_cells, Mir.seqM, Mir.retM, Mir.retNM, Mir.drpM, Mir.asgM, Mir.ifM, Mir.toS, Mir.namG, Mir.tupG, Mir.allG, Mir.lsuG, Mir.varM, Mir.conM, Mir.op2M, Mir.op1M, Mir.tstM, Mir.andM, Mir.orM, Mir.notM, Mir.andT, Mir.orT, Mir.notT, Mir.iteM, Mir.chM, Mir.biM, Mir.isM, Mir.callM, Mir.callC, Mir.callN, Mir.argsM, Mir.O.bind, Mir.rd, Mir.rds, Mir.pures, Mir.tupM, Mir.lstM, Mir.nlsM, Mir.slM, Mir.noP, Mir.someP, Mir.slG, Mir.lcM, Mir.nlcM, Mir.wipeE, Mir.seqI, Mir.rng1I, Mir.rng2I, Mir.zpBI, Mir.seqU, Mir.strI, Mir.forM, Mir.setM, Mir.setC, Mir.parsM, Mir.setUs, Mir.meM, Mir.joinG, Mir.splG, Mir.lenG, Mir.intG, Mir.strG, Mir.listG, Mir.tupleG, Mir.isdic, Mir.isE, Mir.ixG, Mir.addG, Mir.subG, Mir.mulG, Mir.mulOk, Mir.fdivG, Mir.modG, Mir.powG, Mir.negG, Mir.ltG, Mir.leG, Mir.gtG, Mir.geG, Mir.isG, Mir.isNotG, Mir.isNon, Mir.env0, Mir.ins1, Mir.run0, Mir.run1, Mir.runN, Mir.frz, Mir.nxtM, Mir.unM, Mir.appM, Mir.isLst, Mir.kmIx, Mir.kmIn, Mir.scpM, Mir.lowU, Mir.lzpM, Mir.lixM, Mir.lixG, Mir.isLsU, Mir.tupC, Mir.wOf, Mir.frzW, Mir.frzC, Mir.dicM, Mir.nddM, Mir.callV, Mir.callM0, Mir.idxM, Mir.fndS, K_MOST, K_MANY, h1, h2, h3, h4, h5]
theorem cells_num (g : GoodR r) {v : D} (h : F_is_number [v, .int 0, .int 1000000000000000000000000000000] = .ok (.bl false) ∨ ∃ k : Nat, v = .int (k : Nat) ∧ k ≤ 1000000000000000000000000000000 ∧ 200 < lenR r k) : F_cells [roadD r, v] = .ex { cls := "InvalidNumber" } := by
  have h1 := need_road_ok g
  rcases h with h | ⟨k, rfl, hk, hl⟩
  · have h2 : F_need_number [v, .int 0, .int 1000000000000000000000000000000] = .ex { cls := "InvalidNumber" } := by
      simp [F_need_number, m_need_number, Mir.seqM, Mir.retM, Mir.retNM, Mir.drpM, Mir.asgM, Mir.ifM, Mir.toS, Mir.namG, Mir.tupG, Mir.allG, Mir.lsuG, Mir.varM, Mir.conM, Mir.op2M, Mir.op1M, Mir.tstM, Mir.andM, Mir.orM, Mir.notM, Mir.andT, Mir.orT, Mir.notT, Mir.iteM, Mir.chM, Mir.biM, Mir.isM, Mir.callM, Mir.callC, Mir.callN, Mir.argsM, Mir.O.bind, Mir.rd, Mir.rds, Mir.pures, Mir.tupM, Mir.lstM, Mir.nlsM, Mir.slM, Mir.noP, Mir.someP, Mir.slG, Mir.lcM, Mir.nlcM, Mir.wipeE, Mir.seqI, Mir.rng1I, Mir.rng2I, Mir.zpBI, Mir.seqU, Mir.strI, Mir.forM, Mir.setM, Mir.setC, Mir.parsM, Mir.setUs, Mir.meM, Mir.joinG, Mir.splG, Mir.lenG, Mir.intG, Mir.strG, Mir.listG, Mir.tupleG, Mir.isdic, Mir.isE, Mir.ixG, Mir.addG, Mir.subG, Mir.mulG, Mir.mulOk, Mir.fdivG, Mir.modG, Mir.powG, Mir.negG, Mir.ltG, Mir.leG, Mir.gtG, Mir.geG, Mir.isG, Mir.isNotG, Mir.isNon, Mir.env0, Mir.ins1, Mir.run0, Mir.run1, Mir.runN, Mir.frz, Mir.nxtM, Mir.unM, Mir.appM, Mir.isLst, Mir.kmIx, Mir.kmIn, Mir.scpM, Mir.lowU, Mir.lzpM, Mir.lixM, Mir.lixG, Mir.isLsU, Mir.tupC, Mir.wOf, Mir.frzW, Mir.frzC, Mir.dicM, Mir.nddM, Mir.callV, Mir.callM0, Mir.idxM, Mir.fndS, h, Mir.raiM]
    simp [F_cells, m_cells, Mir.seqM, Mir.retM, Mir.retNM, Mir.drpM, Mir.asgM, Mir.ifM, Mir.toS, Mir.namG, Mir.tupG, Mir.allG, Mir.lsuG, Mir.varM, Mir.conM, Mir.op2M, Mir.op1M, Mir.tstM, Mir.andM, Mir.orM, Mir.notM, Mir.andT, Mir.orT, Mir.notT, Mir.iteM, Mir.chM, Mir.biM, Mir.isM, Mir.callM, Mir.callC, Mir.callN, Mir.argsM, Mir.O.bind, Mir.rd, Mir.rds, Mir.pures, Mir.tupM, Mir.lstM, Mir.nlsM, Mir.slM, Mir.noP, Mir.someP, Mir.slG, Mir.lcM, Mir.nlcM, Mir.wipeE, Mir.seqI, Mir.rng1I, Mir.rng2I, Mir.zpBI, Mir.seqU, Mir.strI, Mir.forM, Mir.setM, Mir.setC, Mir.parsM, Mir.setUs, Mir.meM, Mir.joinG, Mir.splG, Mir.lenG, Mir.intG, Mir.strG, Mir.listG, Mir.tupleG, Mir.isdic, Mir.isE, Mir.ixG, Mir.addG, Mir.subG, Mir.mulG, Mir.mulOk, Mir.fdivG, Mir.modG, Mir.powG, Mir.negG, Mir.ltG, Mir.leG, Mir.gtG, Mir.geG, Mir.isG, Mir.isNotG, Mir.isNon, Mir.env0, Mir.ins1, Mir.run0, Mir.run1, Mir.runN, Mir.frz, Mir.nxtM, Mir.unM, Mir.appM, Mir.isLst, Mir.kmIx, Mir.kmIn, Mir.scpM, Mir.lowU, Mir.lzpM, Mir.lixM, Mir.lixG, Mir.isLsU, Mir.tupC, Mir.wOf, Mir.frzW, Mir.frzC, Mir.dicM, Mir.nddM, Mir.callV, Mir.callM0, Mir.idxM, Mir.fndS, K_MOST, K_MANY, h1, h2]
  · have h2 : F_need_number [.int (k : Nat), .int 0, .int 1000000000000000000000000000000] = .ok .non := by
      have := isnum_ok (i := (k : Int)) (lo := 0) (hi := 1000000000000000000000000000000) (by omega)
      simp [F_need_number, m_need_number, Mir.seqM, Mir.retM, Mir.retNM, Mir.drpM, Mir.asgM, Mir.ifM, Mir.toS, Mir.namG, Mir.tupG, Mir.allG, Mir.lsuG, Mir.varM, Mir.conM, Mir.op2M, Mir.op1M, Mir.tstM, Mir.andM, Mir.orM, Mir.notM, Mir.andT, Mir.orT, Mir.notT, Mir.iteM, Mir.chM, Mir.biM, Mir.isM, Mir.callM, Mir.callC, Mir.callN, Mir.argsM, Mir.O.bind, Mir.rd, Mir.rds, Mir.pures, Mir.tupM, Mir.lstM, Mir.nlsM, Mir.slM, Mir.noP, Mir.someP, Mir.slG, Mir.lcM, Mir.nlcM, Mir.wipeE, Mir.seqI, Mir.rng1I, Mir.rng2I, Mir.zpBI, Mir.seqU, Mir.strI, Mir.forM, Mir.setM, Mir.setC, Mir.parsM, Mir.setUs, Mir.meM, Mir.joinG, Mir.splG, Mir.lenG, Mir.intG, Mir.strG, Mir.listG, Mir.tupleG, Mir.isdic, Mir.isE, Mir.ixG, Mir.addG, Mir.subG, Mir.mulG, Mir.mulOk, Mir.fdivG, Mir.modG, Mir.powG, Mir.negG, Mir.ltG, Mir.leG, Mir.gtG, Mir.geG, Mir.isG, Mir.isNotG, Mir.isNon, Mir.env0, Mir.ins1, Mir.run0, Mir.run1, Mir.runN, Mir.frz, Mir.nxtM, Mir.unM, Mir.appM, Mir.isLst, Mir.kmIx, Mir.kmIn, Mir.scpM, Mir.lowU, Mir.lzpM, Mir.lixM, Mir.lixG, Mir.isLsU, Mir.tupC, Mir.wOf, Mir.frzW, Mir.frzC, Mir.dicM, Mir.nddM, Mir.callV, Mir.callM0, Mir.idxM, Mir.fndS, this]
    have h3 := length_ok g k
    have h4 : (200 : Int) < (lenR r k : Int) := by omega
    simp [F_cells, m_cells, Mir.seqM, Mir.retM, Mir.retNM, Mir.drpM, Mir.asgM, Mir.ifM, Mir.toS, Mir.namG, Mir.tupG, Mir.allG, Mir.lsuG, Mir.varM, Mir.conM, Mir.op2M, Mir.op1M, Mir.tstM, Mir.andM, Mir.orM, Mir.notM, Mir.andT, Mir.orT, Mir.notT, Mir.iteM, Mir.chM, Mir.biM, Mir.isM, Mir.callM, Mir.callC, Mir.callN, Mir.argsM, Mir.O.bind, Mir.rd, Mir.rds, Mir.pures, Mir.tupM, Mir.lstM, Mir.nlsM, Mir.slM, Mir.noP, Mir.someP, Mir.slG, Mir.lcM, Mir.nlcM, Mir.wipeE, Mir.seqI, Mir.rng1I, Mir.rng2I, Mir.zpBI, Mir.seqU, Mir.strI, Mir.forM, Mir.setM, Mir.setC, Mir.parsM, Mir.setUs, Mir.meM, Mir.joinG, Mir.splG, Mir.lenG, Mir.intG, Mir.strG, Mir.listG, Mir.tupleG, Mir.isdic, Mir.isE, Mir.ixG, Mir.addG, Mir.subG, Mir.mulG, Mir.mulOk, Mir.fdivG, Mir.modG, Mir.powG, Mir.negG, Mir.ltG, Mir.leG, Mir.gtG, Mir.geG, Mir.isG, Mir.isNotG, Mir.isNon, Mir.env0, Mir.ins1, Mir.run0, Mir.run1, Mir.runN, Mir.frz, Mir.nxtM, Mir.unM, Mir.appM, Mir.isLst, Mir.kmIx, Mir.kmIn, Mir.scpM, Mir.lowU, Mir.lzpM, Mir.lixM, Mir.lixG, Mir.isLsU, Mir.tupC, Mir.wOf, Mir.frzW, Mir.frzC, Mir.dicM, Mir.nddM, Mir.callV, Mir.callM0, Mir.idxM, Mir.fndS, K_MOST, K_MANY, h1, h2, h3, h4, Mir.raiM]
def mostR (r : Rd) : Nat := (200 - r.bg.length - r.en.length) / r.wd.length
theorem most_le (g : GoodR r) : lenR r (mostR r) ≤ 200 ∧ 200 < lenR r (mostR r + 1) := by
  have lb := g.lb
  have le := g.le
  have lw := g.lw
  unfold lenR mostR
  have h1 := Nat.div_mul_le_self (200 - r.bg.length - r.en.length) r.wd.length
  have h2 := Nat.lt_div_mul_add (a := 200 - r.bg.length - r.en.length) (b := r.wd.length) (by omega)
  constructor
  · omega
  · rw [Nat.succ_mul]; omega
theorem small_le (g : GoodR r) {k : Nat} (h : k ≤ 7) : lenR r k ≤ 200 := by
  have lb := g.lb
  have le := g.le
  unfold lenR
  have : k * r.wd.length ≤ 7 * 4 := Nat.mul_le_mul h g.lw4
  omega
theorem road_pl (g : GoodR r) : pl 4 5 (roadD r) = true := by
  have hw : ∀ ws ∈ optsW, pl 1 5 (wsD ws) = true := by decide +kernel
  have hk : ∀ k ∈ r.ks, pl 2 5 (kindD k) = true := fun k hk => pl_tup.mpr ⟨by simp, fun d hd => by
    simp only [List.mem_cons, List.not_mem_nil, or_false] at hd
    rcases hd with rfl | rfl
    · exact hw _ (g.g.2.2 k hk).a
    · exact hw _ (g.g.2.2 k hk).b⟩
  have hp : ∀ b : List Nat, b.length ≤ 4 → pl 3 5 (ptD b) = true := fun b hb => pl_tup.mpr ⟨by simp; omega, fun d hd => by
    obtain ⟨i, _, rfl⟩ := List.mem_map.mp hd
    rfl⟩
  refine pl_tup.mpr ⟨by simp, fun d hd => ?_⟩
  simp only [List.mem_cons, List.not_mem_nil, or_false] at hd
  rcases hd with rfl | rfl | rfl | rfl
  · exact pl_tup.mpr ⟨by have := g.g.2.1; simp; omega, fun d hd => by
      obtain ⟨k, h1, rfl⟩ := List.mem_map.mp hd
      exact hk k h1⟩
  · exact hp _ g.lb
  · exact hp _ g.lw4
  · exact hp _ g.le
theorem lroad_ok {c : Cell} (hc : Sk c) {most : Nat} (hm1 : 1 ≤ most) (hm : most ≤ 4) : ∃ (r : Rd) (c' : Cell), F__law_road [natD most] c = .ok (roadD r) c' ∧ Sk c' ∧ GoodR r := by
  obtain ⟨ks, c1, k1, k2, k3, k4, k5⟩ := kinds_ok hc (most := 4) (by decide) (by decide)
  have g : GoodKs ks := ⟨k3, k4, k5⟩
  obtain ⟨b, c2, b1, b2, b3, b4, b5⟩ := cells_ok k2 (ks := ks) (least := 0) (most := most) g.1 g.2.1 (by omega) (by omega)
  obtain ⟨w, c3, w1, w2, w3, w4, w5⟩ := cells_ok b2 (ks := ks) (least := 1) (most := most) g.1 g.2.1 (by omega) (by omega)
  obtain ⟨e, c4, e1, e2, e3, e4, e5⟩ := cells_ok w2 (ks := ks) (least := 0) (most := most) g.1 g.2.1 (by omega) (by omega)
  refine ⟨⟨ks, b, w, e⟩, c4, ?_, e2, ⟨g, b5, w5, e5, by show b.length ≤ 4; omega, w3, by show w.length ≤ 4; omega, by show e.length ≤ 4; omega⟩⟩
  have k1' : F__law_kinds [.int 4] c = .ok (kindsD ks) c1 := k1
  have b1' : F__law_cells [kindsD ks, .int 0, .int (most : Nat)] c1 = .ok (ptD b) c2 := b1
  have w1' : F__law_cells [kindsD ks, .int 1, .int (most : Nat)] c2 = .ok (ptD w) c3 := w1
  have e1' : F__law_cells [kindsD ks, .int 0, .int (most : Nat)] c3 = .ok (ptD e) c4 := e1
  simp [F__law_road, m__law_road, run1, Mir.ins1, Mir.seqM, Mir.retM, Mir.retNM, Mir.drpM, Mir.asgM, Mir.ifM, Mir.toS, Mir.namG, Mir.tupG, Mir.allG, Mir.lsuG, Mir.varM, Mir.conM, Mir.op2M, Mir.op1M, Mir.tstM, Mir.andM, Mir.orM, Mir.notM, Mir.andT, Mir.orT, Mir.notT, Mir.iteM, Mir.chM, Mir.biM, Mir.isM, Mir.callM, Mir.callC, Mir.callN, Mir.argsM, Mir.O.bind, Mir.rd, Mir.rds, Mir.pures, Mir.tupM, Mir.lstM, Mir.nlsM, Mir.slM, Mir.noP, Mir.someP, Mir.slG, Mir.lcM, Mir.nlcM, Mir.wipeE, Mir.seqI, Mir.rng1I, Mir.rng2I, Mir.zpBI, Mir.seqU, Mir.strI, Mir.forM, Mir.setM, Mir.setC, Mir.parsM, Mir.setUs, Mir.meM, Mir.joinG, Mir.splG, Mir.lenG, Mir.intG, Mir.strG, Mir.listG, Mir.tupleG, Mir.isdic, Mir.isE, Mir.ixG, Mir.addG, Mir.subG, Mir.mulG, Mir.mulOk, Mir.fdivG, Mir.modG, Mir.powG, Mir.negG, Mir.ltG, Mir.leG, Mir.gtG, Mir.geG, Mir.isG, Mir.isNotG, Mir.isNon, Mir.env0, Mir.ins1, Mir.run0, Mir.run1, Mir.runN, Mir.frz, Mir.nxtM, Mir.unM, Mir.appM, Mir.isLst, Mir.kmIx, Mir.kmIn, Mir.scpM, Mir.lowU, Mir.lzpM, Mir.lixM, Mir.lixG, Mir.isLsU, Mir.tupC, Mir.wOf, Mir.frzW, Mir.frzC, Mir.dicM, Mir.nddM, Mir.callV, Mir.callM0, Mir.idxM, Mir.fndS, natD, k1', b1', w1', e1', roadD]
end

/-! ### the law -/
section
variable (sc cell : D) (x2 x3 : Option D) {r : Rd}
def envA (sc cell : D) (x2 x3 : Option D) (r : Rd) (x6 x7 x8 x9 x10 x11 x12 : Option D) : Mir.Env :=
  [some (.d sc), some (.d cell), dd x2, dd x3, some (.c 0), some (.d (roadD r)), dd x6, dd x7, dd x8, dd x9, dd x10, dd x11, dd x12]
theorem again_ok : ∀ (ds : List D) (n L : Nat) (v : D) {c : Cell}, Sk c → n + 3 * ds.length ≤ 24 → L + ds.length ≤ 60 → 5 ≤ L → pl n L v = true → ∀ (x6 x7 x8 x9 x11 x12 : Option D),
    ∃ y10 y11 c', forL (namG 11) B_law_1 ds (envA sc cell x2 x3 r x6 x7 x8 x9 (some v) x11 x12) [c] = .nx (envA sc cell x2 x3 r x6 x7 x8 x9 y10 y11 x12) [c'] ∧ Sk c'
  | [], n, L, v, c, hc, _, _, _, _, x6, x7, x8, x9, x11, x12 => ⟨some v, x11, c, rfl, hc⟩
  | d :: ds, n, L, v, c, hc, hn, hL, h5, hp, x6, x7, x8, x9, x11, x12 => by
    simp only [List.length_cons] at hn hL
    have h1 := right_ok hp (by omega) (by omega)
    obtain ⟨v', c1, b1, b2, b3⟩ := bent_ok 24 n L v c (by omega) (by omega) h5 (by omega) hp hc
    have b1' : F__law_bent [v] c = .ok v' c1 := b1
    obtain ⟨y10, y11, c2, k1, k2⟩ := again_ok ds (n + 3) (L + 1) v' b2 (by omega) (by omega) (by omega) b3 x6 x7 x8 x9 (some d) x12
    refine ⟨y10, y11, c2, ?_, k2⟩
    have hg : namG 11 (.d d) (envA sc cell x2 x3 r x6 x7 x8 x9 (some v) x11 x12) [c] = some (envA sc cell x2 x3 r x6 x7 x8 x9 (some v) (some d) x12, [c]) := rfl
    have hb : B_law_1 (envA sc cell x2 x3 r x6 x7 x8 x9 (some v) (some d) x12) [c] = .nx (envA sc cell x2 x3 r x6 x7 x8 x9 (some v') (some d) x12) [c1] := by
      simp [B_law_1, envA, Mir.seqM, Mir.retM, Mir.retNM, Mir.drpM, Mir.asgM, Mir.ifM, Mir.toS, Mir.namG, Mir.tupG, Mir.allG, Mir.lsuG, Mir.varM, Mir.conM, Mir.op2M, Mir.op1M, Mir.tstM, Mir.andM, Mir.orM, Mir.notM, Mir.andT, Mir.orT, Mir.notT, Mir.iteM, Mir.chM, Mir.biM, Mir.isM, Mir.callM, Mir.callC, Mir.callN, Mir.argsM, Mir.O.bind, Mir.rd, Mir.rds, Mir.pures, Mir.tupM, Mir.lstM, Mir.nlsM, Mir.slM, Mir.noP, Mir.someP, Mir.slG, Mir.lcM, Mir.nlcM, Mir.wipeE, Mir.seqI, Mir.rng1I, Mir.rng2I, Mir.zpBI, Mir.seqU, Mir.strI, Mir.forM, Mir.setM, Mir.setC, Mir.parsM, Mir.setUs, Mir.meM, Mir.joinG, Mir.splG, Mir.lenG, Mir.intG, Mir.strG, Mir.listG, Mir.tupleG, Mir.isdic, Mir.isE, Mir.ixG, Mir.addG, Mir.subG, Mir.mulG, Mir.mulOk, Mir.fdivG, Mir.modG, Mir.powG, Mir.negG, Mir.ltG, Mir.leG, Mir.gtG, Mir.geG, Mir.isG, Mir.isNotG, Mir.isNon, Mir.env0, Mir.ins1, Mir.run0, Mir.run1, Mir.runN, Mir.frz, Mir.nxtM, Mir.unM, Mir.appM, Mir.isLst, Mir.kmIx, Mir.kmIn, Mir.scpM, Mir.lowU, Mir.lzpM, Mir.lixM, Mir.lixG, Mir.isLsU, Mir.tupC, Mir.wOf, Mir.frzW, Mir.frzC, Mir.dicM, Mir.nddM, Mir.callV, Mir.callM0, Mir.idxM, Mir.fndS, dd_some, h1, b1']
    rw [forL, hg]
    simp only [hb]
    exact k1
theorem turns_ok (g : GoodR r) : ∀ (ds : List D) {c : Cell}, Sk c → ∀ (x6 x7 x8 x9 x10 x11 x12 : Option D),
    ∃ y6 y10 y11 c', forL (namG 6) B_law_2 ds (envA sc cell x2 x3 r x6 x7 x8 x9 x10 x11 x12) [c] = .nx (envA sc cell x2 x3 r y6 x7 x8 x9 y10 y11 x12) [c'] ∧ Sk c'
  | [], c, hc, x6, x7, x8, x9, x10, x11, x12 => ⟨x6, x10, x11, c, rfl, hc⟩
  | d :: ds, c, hc, x6, x7, x8, x9, x10, x11, x12 => by
    obtain ⟨y10, y11, c1, h1, h2⟩ := again_ok sc cell x2 x3 [.int 0, .int 1, .int 2] 4 5 (roadD r) hc (by decide) (by decide) (by decide) (road_pl g) (some d) x7 x8 x9 x11 x12
    obtain ⟨z6, z10, z11, c2, k1, k2⟩ := turns_ok g ds h2 (some d) x7 x8 x9 y10 y11 x12
    refine ⟨z6, z10, z11, c2, ?_, k2⟩
    have hg : namG 6 (.d d) (envA sc cell x2 x3 r x6 x7 x8 x9 x10 x11 x12) [c] = some (envA sc cell x2 x3 r (some d) x7 x8 x9 x10 x11 x12, [c]) := rfl
    have r3 : List.range 3 = [0, 1, 2] := rfl
    have hb : B_law_2 (envA sc cell x2 x3 r (some d) x7 x8 x9 x10 x11 x12) [c] = .nx (envA sc cell x2 x3 r (some d) x7 x8 x9 y10 y11 x12) [c1] := by
      unfold envA at h1 ⊢
      simp only [dd_some] at h1
      simp [B_law_2, Mir.seqM, Mir.retM, Mir.retNM, Mir.drpM, Mir.asgM, Mir.ifM, Mir.toS, Mir.namG, Mir.tupG, Mir.allG, Mir.lsuG, Mir.varM, Mir.conM, Mir.op2M, Mir.op1M, Mir.tstM, Mir.andM, Mir.orM, Mir.notM, Mir.andT, Mir.orT, Mir.notT, Mir.iteM, Mir.chM, Mir.biM, Mir.isM, Mir.callM, Mir.callC, Mir.callN, Mir.argsM, Mir.O.bind, Mir.rd, Mir.rds, Mir.pures, Mir.tupM, Mir.lstM, Mir.nlsM, Mir.slM, Mir.noP, Mir.someP, Mir.slG, Mir.lcM, Mir.nlcM, Mir.wipeE, Mir.seqI, Mir.rng1I, Mir.rng2I, Mir.zpBI, Mir.seqU, Mir.strI, Mir.forM, Mir.setM, Mir.setC, Mir.parsM, Mir.setUs, Mir.meM, Mir.joinG, Mir.splG, Mir.lenG, Mir.intG, Mir.strG, Mir.listG, Mir.tupleG, Mir.isdic, Mir.isE, Mir.ixG, Mir.addG, Mir.subG, Mir.mulG, Mir.mulOk, Mir.fdivG, Mir.modG, Mir.powG, Mir.negG, Mir.ltG, Mir.leG, Mir.gtG, Mir.geG, Mir.isG, Mir.isNotG, Mir.isNon, Mir.env0, Mir.ins1, Mir.run0, Mir.run1, Mir.runN, Mir.frz, Mir.nxtM, Mir.unM, Mir.appM, Mir.isLst, Mir.kmIx, Mir.kmIn, Mir.scpM, Mir.lowU, Mir.lzpM, Mir.lixM, Mir.lixG, Mir.isLsU, Mir.tupC, Mir.wOf, Mir.frzW, Mir.frzC, Mir.dicM, Mir.nddM, Mir.callV, Mir.callM0, Mir.idxM, Mir.fndS, dd_some, r3]
      exact h1
    rw [forL, hg]
    simp only [hb]
    exact k1
theorem pt_ne (b : List Nat) : neG (ptD b) (ptD b) = some (.bl false) := neG_refl (n := 1) (pt_cl b)
theorem manys_ok (g : GoodR r) (S : Sto) (x6 x7 x9 x10 x11 : Option D) : ∀ (ks : List Nat) (x8 x12 : Option D), (∀ k ∈ ks, lenR r k ≤ 200) →
    ∃ y8 y12, forL (namG 8) B_law_3 (ks.map natD) (envA sc cell x2 x3 r x6 x7 x8 x9 x10 x11 x12) S = .nx (envA sc cell x2 x3 r x6 x7 y8 x9 x10 x11 y12) S
  | [], x8, x12, _ => ⟨x8, x12, rfl⟩
  | k :: ks, x8, x12, h => by
    obtain ⟨y8, y12, k1⟩ := manys_ok g S x6 x7 x9 x10 x11 ks (some (natD k)) (some (ptD (cellsL r k))) fun z hz => h z (List.mem_cons_of_mem _ hz)
    refine ⟨y8, y12, ?_⟩
    have hl := h k List.mem_cons_self
    have h1 := rcells_ok g hl
    obtain ⟨_, m, a1, a2⟩ := rsum g hl
    obtain ⟨x0, e1, e2, e3⟩ := road_ix r
    have tt : isE .tuple (ptD (cellsL r k)) = true := rfl
    have td : isdic (ptD (cellsL r k)) = false := rfl
    have hn := pt_ne (cellsL r k)
    have hg : namG 8 (.d (natD k)) (envA sc cell x2 x3 r x6 x7 x8 x9 x10 x11 x12) S = some (envA sc cell x2 x3 r x6 x7 (some (natD k)) x9 x10 x11 x12, S) := rfl
    have hb : B_law_3 (envA sc cell x2 x3 r x6 x7 (some (natD k)) x9 x10 x11 x12) S = .nx (envA sc cell x2 x3 r x6 x7 (some (natD k)) x9 x10 x11 (some (ptD (cellsL r k)))) S := by
      simp [B_law_3, envA, Mir.seqM, Mir.retM, Mir.retNM, Mir.drpM, Mir.asgM, Mir.ifM, Mir.toS, Mir.namG, Mir.tupG, Mir.allG, Mir.lsuG, Mir.varM, Mir.conM, Mir.op2M, Mir.op1M, Mir.tstM, Mir.andM, Mir.orM, Mir.notM, Mir.andT, Mir.orT, Mir.notT, Mir.iteM, Mir.chM, Mir.biM, Mir.isM, Mir.callM, Mir.callC, Mir.callN, Mir.argsM, Mir.O.bind, Mir.rd, Mir.rds, Mir.pures, Mir.tupM, Mir.lstM, Mir.nlsM, Mir.slM, Mir.noP, Mir.someP, Mir.slG, Mir.lcM, Mir.nlcM, Mir.wipeE, Mir.seqI, Mir.rng1I, Mir.rng2I, Mir.zpBI, Mir.seqU, Mir.strI, Mir.forM, Mir.setM, Mir.setC, Mir.parsM, Mir.setUs, Mir.meM, Mir.joinG, Mir.splG, Mir.lenG, Mir.intG, Mir.strG, Mir.listG, Mir.tupleG, Mir.subG, Mir.mulOk, Mir.fdivG, Mir.modG, Mir.powG, Mir.negG, Mir.ltG, Mir.leG, Mir.gtG, Mir.geG, Mir.isG, Mir.isNotG, Mir.isNon, Mir.env0, Mir.ins1, Mir.run0, Mir.run1, Mir.runN, Mir.frz, Mir.nxtM, Mir.unM, Mir.appM, Mir.isLst, Mir.kmIx, Mir.kmIn, Mir.scpM, Mir.lowU, Mir.lzpM, Mir.lixM, Mir.lixG, Mir.isLsU, Mir.tupC, Mir.wOf, Mir.frzW, Mir.frzC, Mir.dicM, Mir.nddM, Mir.callV, Mir.callM0, Mir.idxM, Mir.fndS, natD, dd_some, h1, e1, e2, e3, m, a1, a2, tt, td, hn]
    rw [List.map_cons, forL, hg]
    simp only [hb]
    exact k1
theorem hs_number : hsel sub_t hs__law_word "InvalidNumber" = some "number" := by decide +kernel
theorem ne_number : neG (.str "number") (.str "number") = some (.bl false) := neG_refl (n := 0) (by decide +kernel)
theorem odds_ok (g : GoodR r) (S : Sto) (x6 x7 x8 x10 x11 x12 : Option D) : ∀ (ds : List D) (x9 : Option D), (∀ v ∈ ds, F_cells [roadD r, v] = .ex { cls := "InvalidNumber" }) →
    ∃ y9, forL (namG 9) B_law_4 ds (envA sc cell x2 x3 r x6 x7 x8 x9 x10 x11 x12) S = .nx (envA sc cell x2 x3 r x6 x7 x8 y9 x10 x11 x12) S
  | [], x9, _ => ⟨x9, rfl⟩
  | d :: ds, x9, h => by
    obtain ⟨y9, k1⟩ := odds_ok g S x6 x7 x8 x10 x11 x12 ds (some d) fun z hz => h z (List.mem_cons_of_mem _ hz)
    refine ⟨y9, ?_⟩
    have h1 := h d List.mem_cons_self
    have hg : namG 9 (.d d) (envA sc cell x2 x3 r x6 x7 x8 x9 x10 x11 x12) S = some (envA sc cell x2 x3 r x6 x7 x8 (some d) x10 x11 x12, S) := rfl
    have hb : B_law_4 (envA sc cell x2 x3 r x6 x7 x8 (some d) x10 x11 x12) S = .nx (envA sc cell x2 x3 r x6 x7 x8 (some d) x10 x11 x12) S := by
      simp [B_law_4, envA, Mir.seqM, Mir.retM, Mir.retNM, Mir.drpM, Mir.asgM, Mir.ifM, Mir.toS, Mir.namG, Mir.tupG, Mir.allG, Mir.lsuG, Mir.varM, Mir.conM, Mir.op2M, Mir.op1M, Mir.tstM, Mir.andM, Mir.orM, Mir.notM, Mir.andT, Mir.orT, Mir.notT, Mir.iteM, Mir.chM, Mir.biM, Mir.isM, Mir.callM, Mir.callC, Mir.callN, Mir.argsM, Mir.O.bind, Mir.rd, Mir.rds, Mir.pures, Mir.tupM, Mir.lstM, Mir.nlsM, Mir.slM, Mir.noP, Mir.someP, Mir.slG, Mir.lcM, Mir.nlcM, Mir.wipeE, Mir.seqI, Mir.rng1I, Mir.rng2I, Mir.zpBI, Mir.seqU, Mir.strI, Mir.forM, Mir.setM, Mir.setC, Mir.parsM, Mir.setUs, Mir.meM, Mir.joinG, Mir.splG, Mir.lenG, Mir.intG, Mir.strG, Mir.listG, Mir.tupleG, Mir.isdic, Mir.isE, Mir.ixG, Mir.addG, Mir.subG, Mir.mulG, Mir.mulOk, Mir.fdivG, Mir.modG, Mir.powG, Mir.negG, Mir.ltG, Mir.leG, Mir.gtG, Mir.geG, Mir.isG, Mir.isNotG, Mir.isNon, Mir.env0, Mir.ins1, Mir.run0, Mir.run1, Mir.runN, Mir.frz, Mir.nxtM, Mir.unM, Mir.appM, Mir.isLst, Mir.kmIx, Mir.kmIn, Mir.scpM, Mir.lowU, Mir.lzpM, Mir.lixM, Mir.lixG, Mir.isLsU, Mir.tupC, Mir.wOf, Mir.frzW, Mir.frzC, Mir.dicM, Mir.nddM, Mir.callV, Mir.callM0, Mir.idxM, Mir.fndS, Mir.lamM, dd_some, h1, hs_number, ne_number]
    rw [forL, hg]
    simp only [hb]
    exact k1
def oddN (m : Nat) : List D := [.non, .int (-1), .int ((m : Int) + 1), .bl true, .str "2", .int 1000000000000000000000000000000]
theorem odd_bad (g : GoodR r) : ∀ v ∈ oddN (mostR r), F_cells [roadD r, v] = .ex { cls := "InvalidNumber" } := by
  intro v hv
  simp only [oddN, List.mem_cons, List.not_mem_nil, or_false] at hv
  obtain ⟨m1, m2⟩ := most_le g
  rcases hv with rfl | rfl | rfl | rfl | rfl | rfl
  · exact cells_num g (.inl (by simp [F_is_number, m_is_number, Mir.seqM, Mir.retM, Mir.retNM, Mir.drpM, Mir.asgM, Mir.ifM, Mir.toS, Mir.namG, Mir.tupG, Mir.allG, Mir.lsuG, Mir.varM, Mir.conM, Mir.op2M, Mir.op1M, Mir.tstM, Mir.andM, Mir.orM, Mir.notM, Mir.andT, Mir.orT, Mir.notT, Mir.iteM, Mir.chM, Mir.biM, Mir.isM, Mir.callM, Mir.callC, Mir.callN, Mir.argsM, Mir.O.bind, Mir.rd, Mir.rds, Mir.pures, Mir.tupM, Mir.lstM, Mir.nlsM, Mir.slM, Mir.noP, Mir.someP, Mir.slG, Mir.lcM, Mir.nlcM, Mir.wipeE, Mir.seqI, Mir.rng1I, Mir.rng2I, Mir.zpBI, Mir.seqU, Mir.strI, Mir.forM, Mir.setM, Mir.setC, Mir.parsM, Mir.setUs, Mir.meM, Mir.joinG, Mir.splG, Mir.lenG, Mir.intG, Mir.strG, Mir.listG, Mir.tupleG, Mir.isdic, Mir.isE, Mir.ixG, Mir.addG, Mir.subG, Mir.mulG, Mir.mulOk, Mir.fdivG, Mir.modG, Mir.powG, Mir.negG, Mir.ltG, Mir.leG, Mir.gtG, Mir.geG, Mir.isG, Mir.isNotG, Mir.isNon, Mir.env0, Mir.ins1, Mir.run0, Mir.run1, Mir.runN, Mir.frz, Mir.nxtM, Mir.unM, Mir.appM, Mir.isLst, Mir.kmIx, Mir.kmIn, Mir.scpM, Mir.lowU, Mir.lzpM, Mir.lixM, Mir.lixG, Mir.isLsU, Mir.tupC, Mir.wOf, Mir.frzW, Mir.frzC, Mir.dicM, Mir.nddM, Mir.callV, Mir.callM0, Mir.idxM, Mir.fndS]))
  · exact cells_num g (.inl (by rw [isnumB]; rfl))
  · refine cells_num g (.inr ⟨mostR r + 1, by simp, ?_, m2⟩)
    have h1 : mostR r ≤ mostR r * r.wd.length := Nat.le_mul_of_pos_right _ g.lw
    unfold lenR at m1
    omega
  · exact cells_num g (.inl (by simp [F_is_number, m_is_number, Mir.seqM, Mir.retM, Mir.retNM, Mir.drpM, Mir.asgM, Mir.ifM, Mir.toS, Mir.namG, Mir.tupG, Mir.allG, Mir.lsuG, Mir.varM, Mir.conM, Mir.op2M, Mir.op1M, Mir.tstM, Mir.andM, Mir.orM, Mir.notM, Mir.andT, Mir.orT, Mir.notT, Mir.iteM, Mir.chM, Mir.biM, Mir.isM, Mir.callM, Mir.callC, Mir.callN, Mir.argsM, Mir.O.bind, Mir.rd, Mir.rds, Mir.pures, Mir.tupM, Mir.lstM, Mir.nlsM, Mir.slM, Mir.noP, Mir.someP, Mir.slG, Mir.lcM, Mir.nlcM, Mir.wipeE, Mir.seqI, Mir.rng1I, Mir.rng2I, Mir.zpBI, Mir.seqU, Mir.strI, Mir.forM, Mir.setM, Mir.setC, Mir.parsM, Mir.setUs, Mir.meM, Mir.joinG, Mir.splG, Mir.lenG, Mir.intG, Mir.strG, Mir.listG, Mir.tupleG, Mir.isdic, Mir.isE, Mir.ixG, Mir.addG, Mir.subG, Mir.mulG, Mir.mulOk, Mir.fdivG, Mir.modG, Mir.powG, Mir.negG, Mir.ltG, Mir.leG, Mir.gtG, Mir.geG, Mir.isG, Mir.isNotG, Mir.isNon, Mir.env0, Mir.ins1, Mir.run0, Mir.run1, Mir.runN, Mir.frz, Mir.nxtM, Mir.unM, Mir.appM, Mir.isLst, Mir.kmIx, Mir.kmIn, Mir.scpM, Mir.lowU, Mir.lzpM, Mir.lixM, Mir.lixG, Mir.isLsU, Mir.tupC, Mir.wOf, Mir.frzW, Mir.frzC, Mir.dicM, Mir.nddM, Mir.callV, Mir.callM0, Mir.idxM, Mir.fndS]))
  · exact cells_num g (.inl (by simp [F_is_number, m_is_number, Mir.seqM, Mir.retM, Mir.retNM, Mir.drpM, Mir.asgM, Mir.ifM, Mir.toS, Mir.namG, Mir.tupG, Mir.allG, Mir.lsuG, Mir.varM, Mir.conM, Mir.op2M, Mir.op1M, Mir.tstM, Mir.andM, Mir.orM, Mir.notM, Mir.andT, Mir.orT, Mir.notT, Mir.iteM, Mir.chM, Mir.biM, Mir.isM, Mir.callM, Mir.callC, Mir.callN, Mir.argsM, Mir.O.bind, Mir.rd, Mir.rds, Mir.pures, Mir.tupM, Mir.lstM, Mir.nlsM, Mir.slM, Mir.noP, Mir.someP, Mir.slG, Mir.lcM, Mir.nlcM, Mir.wipeE, Mir.seqI, Mir.rng1I, Mir.rng2I, Mir.zpBI, Mir.seqU, Mir.strI, Mir.forM, Mir.setM, Mir.setC, Mir.parsM, Mir.setUs, Mir.meM, Mir.joinG, Mir.splG, Mir.lenG, Mir.intG, Mir.strG, Mir.listG, Mir.tupleG, Mir.isdic, Mir.isE, Mir.ixG, Mir.addG, Mir.subG, Mir.mulG, Mir.mulOk, Mir.fdivG, Mir.modG, Mir.powG, Mir.negG, Mir.ltG, Mir.leG, Mir.gtG, Mir.geG, Mir.isG, Mir.isNotG, Mir.isNon, Mir.env0, Mir.ins1, Mir.run0, Mir.run1, Mir.runN, Mir.frz, Mir.nxtM, Mir.unM, Mir.appM, Mir.isLst, Mir.kmIx, Mir.kmIn, Mir.scpM, Mir.lowU, Mir.lzpM, Mir.lixM, Mir.lixG, Mir.isLsU, Mir.tupC, Mir.wOf, Mir.frzW, Mir.frzC, Mir.dicM, Mir.nddM, Mir.callV, Mir.callM0, Mir.idxM, Mir.fndS]))
  · refine cells_num g (.inr ⟨1000000000000000000000000000000, rfl, by omega, ?_⟩)
    unfold lenR
    have : 1000000000000000000000000000000 ≤ 1000000000000000000000000000000 * r.wd.length := Nat.le_mul_of_pos_right _ g.lw
    omega
end
def envB (sc : D) (x1 x2 x3 x5 x6 x7 x8 x9 x10 x11 x12 : Option D) : Mir.Env :=
  [some (.d sc), dd x1, dd x2, dd x3, none, dd x5, dd x6, dd x7, dd x8, dd x9, dd x10, dd x11, dd x12]
theorem cell_ok (sc : D) (i : Int) (x2 x3 x5 x6 x7 x8 x9 x10 x11 x12 : Option D) :
    ∃ y5 y6 y7 y8 y9 y10 y11 y12, B_law_5 (envB sc (some (.int i)) x2 x3 x5 x6 x7 x8 x9 x10 x11 x12) [] = .nx (envB sc (some (.int i)) x2 x3 y5 y6 y7 y8 y9 y10 y11 y12) [] := by
  obtain ⟨c, s1, s2⟩ := sack_ok i 3
  obtain ⟨r, c1, r1, r2, g⟩ := lroad_ok s2 (most := 4) (by decide) (by decide)
  have r1' : F__law_road [.int 4] c = .ok (roadD r) c1 := r1
  obtain ⟨y6, y10, y11, c2, t1, t2⟩ := turns_ok sc (.int i) x2 x3 g [.int 0, .int 1, .int 2, .int 3, .int 4, .int 5, .int 6, .int 7, .int 8, .int 9, .int 10, .int 11, .int 12, .int 13] r2 x6 x7 x8 x9 x10 x11 x12
  obtain ⟨d, c3, o1, o2, o3⟩ := odd_ok t2
  have hr := right_ok o3 (by decide) (by decide)
  obtain ⟨m1, m2⟩ := most_le g
  obtain ⟨y8, y12, k1⟩ := manys_ok sc (.int i) x2 x3 g [c3] y6 (some (natD (mostR r))) x9 y10 y11 [0, 1, 2, 7, mostR r] x8 x12 (fun k hk => by
    simp only [List.mem_cons, List.not_mem_nil, or_false] at hk
    rcases hk with rfl | rfl | rfl | rfl | rfl
    · exact small_le g (by omega)
    · exact small_le g (by omega)
    · exact small_le g (by omega)
    · exact small_le g (by omega)
    · exact m1)
  obtain ⟨y9, z1⟩ := odds_ok sc (.int i) x2 x3 g [c3] y6 (some (natD (mostR r))) y8 y10 y11 y12 (oddN (mostR r)) x9 (odd_bad g)
  refine ⟨some (roadD r), y6, some (natD (mostR r)), y8, y9, y10, y11, y12, ?_⟩
  obtain ⟨x0, e1, e2, e3⟩ := road_ix r
  have lb := g.lb
  have le := g.le
  have lw := g.lw
  have fd : fdivG (.int ((200 : Int) - (r.bg.length : Nat) - (r.en.length : Nat))) (.int (r.wd.length : Nat)) = some (natD (mostR r)) := by
    have e : (200 : Int) - (r.bg.length : Nat) - (r.en.length : Nat) = ((200 - r.bg.length - r.en.length : Nat) : Int) := by omega
    rw [e]
    have l1 : ((r.wd.length : Nat) : Int).natAbs.log2 < 9000 := log_ok (by have := g.lw4; omega)
    have l0 : (0 : Int) < (r.wd.length : Nat) := by omega
    show (if (0 : Int) < (r.wd.length : Nat) ∧ ((r.wd.length : Nat) : Int).natAbs.log2 < 9000 then _ else _) = _
    rw [if_pos ⟨l0, l1⟩]
    rfl
  have p30 : powG (.int 10) (.int 30) = some (.int 1000000000000000000000000000000) := rfl
  have r14 : List.range 14 = [0, 1, 2, 3, 4, 5, 6, 7, 8, 9, 10, 11, 12, 13] := rfl
  unfold envA at t1 k1 z1
  have q0 : ((0 : Nat) : Int) = 0 := rfl
  have q1 : ((1 : Nat) : Int) = 1 := rfl
  have q2 : ((2 : Nat) : Int) = 2 := rfl
  have q7 : ((7 : Nat) : Int) = 7 := rfl
  simp only [List.map_cons, List.map_nil, natD, dd_some, q0, q1, q2, q7] at t1 k1 z1
  simp only [oddN] at z1
  have hb : (seqM (asgM (callN F__law_sack [(varM 1), (conM (.int 3))]) (namG 4))
    (seqM (asgM (callC 0 F__law_road [(varM 4), (conM (.int 4))]) (namG 5))
    (seqM (Mir.forM (rng1I (conM (.int 14))) (namG 6)
    B_law_2)
    (seqM (ifM (notT (tstM (callM F__law_right [(callC 0 F__law_odd [(varM 4)])]))) (retM (conM (.bl false))) nxtM)
    (seqM (asgM (op2M fdivG (op2M subG (op2M subG (conM (.int 200)) (biM lenG [(op2M ixG (varM 5) (conM (.int 1)))])) (biM lenG [(op2M ixG (varM 5) (conM (.int 3)))])) (biM lenG [(op2M ixG (varM 5) (conM (.int 2)))])) (namG 7))
    (seqM (Mir.forM (seqI (tupM [(conM (.int 0)), (conM (.int 1)), (conM (.int 2)), (conM (.int 7)), (varM 7)])) (namG 8)
    B_law_3)
    (Mir.forM (seqI (tupM [(conM .non), (op1M negG (conM (.int 1))), (op2M addG (varM 7) (conM (.int 1))), (conM (.bl true)), (conM (.str "2")), (op2M powG (conM (.int 10)) (conM (.int 30)))])) (namG 9)
    B_law_4))))))) (envB sc (some (.int i)) x2 x3 x5 x6 x7 x8 x9 x10 x11 x12) [] =
      .nx [some (.d sc), some (.d (.int i)), dd x2, dd x3, some (.c 0), some (.d (roadD r)), dd y6, some (.d (natD (mostR r))), dd y8, dd y9, dd y10, dd y11, dd y12] [c3] := by
    unfold natD at fd ⊢
    simp [envB, Mir.seqM, Mir.retM, Mir.retNM, Mir.drpM, Mir.asgM, Mir.ifM, Mir.toS, Mir.namG, Mir.tupG, Mir.allG, Mir.lsuG, Mir.varM, Mir.conM, Mir.op2M, Mir.op1M, Mir.tstM, Mir.andM, Mir.orM, Mir.notM, Mir.andT, Mir.orT, Mir.notT, Mir.iteM, Mir.chM, Mir.biM, Mir.isM, Mir.callM, Mir.callC, Mir.callN, Mir.argsM, Mir.O.bind, Mir.rd, Mir.rds, Mir.pures, Mir.tupM, Mir.lstM, Mir.nlsM, Mir.slM, Mir.noP, Mir.someP, Mir.slG, Mir.lcM, Mir.nlcM, Mir.wipeE, Mir.seqI, Mir.rng1I, Mir.rng2I, Mir.zpBI, Mir.seqU, Mir.strI, Mir.forM, Mir.setM, Mir.setC, Mir.parsM, Mir.setUs, Mir.meM, Mir.joinG, Mir.splG, Mir.intG, Mir.strG, Mir.listG, Mir.tupleG, Mir.isdic, Mir.isE, Mir.addG, Mir.subG, Mir.mulG, Mir.mulOk, Mir.modG, Mir.negG, Mir.ltG, Mir.leG, Mir.gtG, Mir.geG, Mir.isG, Mir.isNotG, Mir.isNon, Mir.env0, Mir.ins1, Mir.run0, Mir.run1, Mir.runN, Mir.frz, Mir.nxtM, Mir.unM, Mir.appM, Mir.isLst, Mir.kmIx, Mir.kmIn, Mir.scpM, Mir.lowU, Mir.lzpM, Mir.lixM, Mir.lixG, Mir.isLsU, Mir.tupC, Mir.wOf, Mir.frzW, Mir.frzC, Mir.dicM, Mir.nddM, Mir.callV, Mir.callM0, Mir.idxM, Mir.fndS, dd_some, s1, r1', r14, t1, o1, hr, e1, e2, e3, len_pt, fd, k1, p30, Mir.negG, z1]
  unfold B_law_5
  simp only [Mir.scpM]
  rw [hb]
  have l1 : ∀ (n : Nat) (d : D), Mir.lowU n (some (.d d)) = true := fun _ _ => rfl
  have l2 : ∀ (n : Nat), Mir.lowU n none = true := fun _ => rfl
  simp [Mir.wipeE, low_dd, l1, l2, envB, dd_some]
theorem cells1 (sc : D) (x2 x3 : Option D) : ∀ (is : List Int) (x1 x5 x6 x7 x8 x9 x10 x11 x12 : Option D), ∃ y1 y5 y6 y7 y8 y9 y10 y11 y12, forL (namG 1) B_law_5 (is.map .int) (envB sc x1 x2 x3 x5 x6 x7 x8 x9 x10 x11 x12) [] = .nx (envB sc y1 x2 x3 y5 y6 y7 y8 y9 y10 y11 y12) []
  | [], x1, x5, x6, x7, x8, x9, x10, x11, x12 => ⟨x1, x5, x6, x7, x8, x9, x10, x11, x12, rfl⟩
  | i :: is, x1, x5, x6, x7, x8, x9, x10, x11, x12 => by
    obtain ⟨y5, y6, y7, y8, y9, y10, y11, y12, h1⟩ := cell_ok sc i x2 x3 x5 x6 x7 x8 x9 x10 x11 x12
    obtain ⟨z1, z5, z6, z7, z8, z9, z10, z11, z12, h2⟩ := cells1 sc x2 x3 is (some (.int i)) y5 y6 y7 y8 y9 y10 y11 y12
    refine ⟨z1, z5, z6, z7, z8, z9, z10, z11, z12, ?_⟩
    have hn : namG 1 (.d (.int i)) (envB sc x1 x2 x3 x5 x6 x7 x8 x9 x10 x11 x12) [] = some (envB sc (some (.int i)) x2 x3 x5 x6 x7 x8 x9 x10 x11 x12, []) := rfl
    rw [List.map_cons, forL, hn]
    simp only [h1]
    exact h2
def kA : D := .tup [.tup [.str "left", .str "right"], .tup [.str "stay"]]
def zs (k : Nat) : D := .tup (List.replicate k (.int 0))
def rows1 : List D := [.tup [.tup [kA], .tup [], zs 1, .tup []], .tup [.tup [kA], .tup [], .tup [], zs 1], .tup [.tup [kA], zs 1, .tup [.int 1], .tup []], .tup [.tup (List.replicate 5 kA), .tup [], zs 1, .tup []]]
def rows2 : List D := [.tup [.tup [kA], zs 5, zs 1, .tup []], .tup [.tup [kA], zs 4, zs 4, zs 4], .tup [kA, .tup [], zs 1, .tup []]]
def rows3 : List D := [.tup [.tup [.tup [.tup [.str "stay"], .tup [.str "left", .str "right"]]], .tup [], zs 1, .tup []], .tup [.tup [.tup [.tup [.str "right", .str "left"], .tup []]], .tup [], zs 1, .tup []], .tup [.tup [kA], .lst [], zs 1, .tup []]]
def rows4 : List D := [.tup [.tup [.tup [.tup [.str "left", .str "left"], .tup []]], .tup [], zs 1, .tup []], .tup [.tup [.tup [.tup [.str "up"], .tup []]], .tup [], zs 1, .tup []], .tup [.tup [], .tup [], zs 1, .tup []]]
def rowsA : List D := rows1 ++ rows2 ++ rows3 ++ rows4
theorem rows_pl : (rowsA.all (pl 5 9)) = true := by decide +kernel
theorem law_true2 (ns : List Int) (hns : ns.length ≤ 63) : F_law [.scr ns] = .ok (.bl true) ∧ F_law [.lst (ns.map D.int)] = .ok (.bl true) := by
  have main : ∀ d, IsScr ns d → F_law [d] = .ok (.bl true) := fun d hd => by
    obtain ⟨z1, z5, z6, z7, z8, z9, z10, z11, z12, h⟩ := cells1 d none none ((0 :: ns).take 10) none none none none none none none none none
    have hit := first_it hd hns 10 (ρ := envB d none none none none none none none none none none none) (S := []) rfl
    have hE : env0 13 ([d].map U.d) = envB d none none none none none none none none none none none := rfl
    have hfor : Mir.forM (seqI (slM (op2M addG (lstM [(conM (.int 0))]) (varM 0)) noP (someP (conM (.int 10))))) (namG 1) B_law_5 (envB d none none none none none none none none none none none) [] = .nx (envB d z1 none none z5 z6 z7 z8 z9 z10 z11 z12) [] := forM_nx hit h
    have hC : C_law_1 [some (.d d), dd z1, some (.d kA), some (.d (.lst rowsA)), none, dd z5, dd z6, dd z7, dd z8, dd z9, dd z10, dd z11, dd z12] [] = .ok (.d (.lst [])) [] := by
      have := lcM_fil (it := seqI (varM 3)) (tg := .one 10) (t := (notT (tstM (callM F__law_right [(varM 10)])))) (f := varM 10) (own := [10]) (ρ := [some (.d d), dd z1, some (.d kA), some (.d (.lst rowsA)), none, dd z5, dd z6, dd z7, dd z8, dd z9, dd z10, dd z11, dd z12]) (S := []) (S1 := []) (ds := rowsA) (fun _ => false) (fun d => d) (by simp [Mir.seqM, Mir.retM, Mir.retNM, Mir.drpM, Mir.asgM, Mir.ifM, Mir.toS, Mir.namG, Mir.tupG, Mir.allG, Mir.lsuG, Mir.varM, Mir.conM, Mir.op2M, Mir.op1M, Mir.tstM, Mir.andM, Mir.orM, Mir.notM, Mir.andT, Mir.orT, Mir.notT, Mir.iteM, Mir.chM, Mir.biM, Mir.isM, Mir.callM, Mir.callC, Mir.callN, Mir.argsM, Mir.O.bind, Mir.rd, Mir.rds, Mir.pures, Mir.tupM, Mir.lstM, Mir.nlsM, Mir.slM, Mir.noP, Mir.someP, Mir.slG, Mir.lcM, Mir.nlcM, Mir.wipeE, Mir.seqI, Mir.rng1I, Mir.rng2I, Mir.zpBI, Mir.seqU, Mir.strI, Mir.forM, Mir.setM, Mir.setC, Mir.parsM, Mir.setUs, Mir.meM, Mir.joinG, Mir.splG, Mir.lenG, Mir.intG, Mir.strG, Mir.listG, Mir.tupleG, Mir.isdic, Mir.isE, Mir.ixG, Mir.addG, Mir.subG, Mir.mulG, Mir.mulOk, Mir.fdivG, Mir.modG, Mir.powG, Mir.negG, Mir.ltG, Mir.leG, Mir.gtG, Mir.geG, Mir.isG, Mir.isNotG, Mir.isNon, Mir.env0, Mir.ins1, Mir.run0, Mir.run1, Mir.runN, Mir.frz, Mir.nxtM, Mir.unM, Mir.appM, Mir.isLst, Mir.kmIx, Mir.kmIn, Mir.scpM, Mir.lowU, Mir.lzpM, Mir.lixM, Mir.lixG, Mir.isLsU, Mir.tupC, Mir.wOf, Mir.frzW, Mir.frzC, Mir.dicM, Mir.nddM, Mir.callV, Mir.callM0, Mir.idxM, Mir.fndS]) (by decide) fun v hv => ⟨_, rfl, by
        have h1 := right_ok (List.all_eq_true.mp rows_pl v hv) (by decide) (by decide)
        simp [Mir.seqM, Mir.retM, Mir.retNM, Mir.drpM, Mir.asgM, Mir.ifM, Mir.toS, Mir.namG, Mir.tupG, Mir.allG, Mir.lsuG, Mir.varM, Mir.conM, Mir.op2M, Mir.op1M, Mir.tstM, Mir.andM, Mir.orM, Mir.notM, Mir.andT, Mir.orT, Mir.notT, Mir.iteM, Mir.chM, Mir.biM, Mir.isM, Mir.callM, Mir.callC, Mir.callN, Mir.argsM, Mir.O.bind, Mir.rd, Mir.rds, Mir.pures, Mir.tupM, Mir.lstM, Mir.nlsM, Mir.slM, Mir.noP, Mir.someP, Mir.slG, Mir.lcM, Mir.nlcM, Mir.wipeE, Mir.seqI, Mir.rng1I, Mir.rng2I, Mir.zpBI, Mir.seqU, Mir.strI, Mir.forM, Mir.setM, Mir.setC, Mir.parsM, Mir.setUs, Mir.meM, Mir.joinG, Mir.splG, Mir.lenG, Mir.intG, Mir.strG, Mir.listG, Mir.tupleG, Mir.isdic, Mir.isE, Mir.ixG, Mir.addG, Mir.subG, Mir.mulG, Mir.mulOk, Mir.fdivG, Mir.modG, Mir.powG, Mir.negG, Mir.ltG, Mir.leG, Mir.gtG, Mir.geG, Mir.isG, Mir.isNotG, Mir.isNon, Mir.env0, Mir.ins1, Mir.run0, Mir.run1, Mir.runN, Mir.frz, Mir.nxtM, Mir.unM, Mir.appM, Mir.isLst, Mir.kmIx, Mir.kmIn, Mir.scpM, Mir.lowU, Mir.lzpM, Mir.lixM, Mir.lixG, Mir.isLsU, Mir.tupC, Mir.wOf, Mir.frzW, Mir.frzC, Mir.dicM, Mir.nddM, Mir.callV, Mir.callM0, Mir.idxM, Mir.fndS, h1], fun z => by cases z⟩
      have e : (rowsA.filter fun _ => false).map (fun d : D => d) = [] := rfl
      rw [e] at this
      exact this
    have m5 : mulG (.tup [kA]) (.int 5) = some (.tup (List.replicate 5 kA)) := rfl
    have m6 : mulG (.tup [.int 0]) (.int 5) = some (zs 5) := rfl
    have m7 : mulG (.tup [.int 0]) (.int 4) = some (zs 4) := rfl
    have a1 : addG (.lst rows1) (.lst rows2) = some (.lst (rows1 ++ rows2)) := rfl
    have a2 : addG (.lst (rows1 ++ rows2)) (.lst rows3) = some (.lst (rows1 ++ rows2 ++ rows3)) := rfl
    have a3 : addG (.lst (rows1 ++ rows2 ++ rows3)) (.lst rows4) = some (.lst rowsA) := rfl
    have rv : revG kA = some (.tup [.tup [.str "stay"], .tup [.str "left", .str "right"]]) := rfl
    have en : eqG (.lst []) (.lst []) = some (.bl true) := rfl
    show run0 13 m_law [d] = _
    unfold run0
    rw [hE]
    unfold m_law
    simp only [Mir.seqM]
    rw [hfor]
    have s2 : (asgM (tupM [(tupM [(conM (.str "left")), (conM (.str "right"))]), (tupM [(conM (.str "stay"))])]) (namG 2)) (envB d z1 none none z5 z6 z7 z8 z9 z10 z11 z12) [] = .nx (envB d z1 (some kA) none z5 z6 z7 z8 z9 z10 z11 z12) [] := by
      simp [envB, Mir.seqM, Mir.retM, Mir.retNM, Mir.drpM, Mir.asgM, Mir.ifM, Mir.toS, Mir.namG, Mir.tupG, Mir.allG, Mir.lsuG, Mir.varM, Mir.conM, Mir.op2M, Mir.op1M, Mir.tstM, Mir.andM, Mir.orM, Mir.notM, Mir.andT, Mir.orT, Mir.notT, Mir.iteM, Mir.chM, Mir.biM, Mir.isM, Mir.callM, Mir.callC, Mir.callN, Mir.argsM, Mir.O.bind, Mir.rd, Mir.rds, Mir.pures, Mir.tupM, Mir.lstM, Mir.nlsM, Mir.slM, Mir.noP, Mir.someP, Mir.slG, Mir.lcM, Mir.nlcM, Mir.wipeE, Mir.seqI, Mir.rng1I, Mir.rng2I, Mir.zpBI, Mir.seqU, Mir.strI, Mir.forM, Mir.setM, Mir.setC, Mir.parsM, Mir.setUs, Mir.meM, Mir.joinG, Mir.splG, Mir.lenG, Mir.intG, Mir.strG, Mir.listG, Mir.tupleG, Mir.isdic, Mir.isE, Mir.ixG, Mir.addG, Mir.subG, Mir.mulG, Mir.mulOk, Mir.fdivG, Mir.modG, Mir.powG, Mir.negG, Mir.ltG, Mir.leG, Mir.gtG, Mir.geG, Mir.isG, Mir.isNotG, Mir.isNon, Mir.env0, Mir.ins1, Mir.run0, Mir.run1, Mir.runN, Mir.frz, Mir.nxtM, Mir.unM, Mir.appM, Mir.isLst, Mir.kmIx, Mir.kmIn, Mir.scpM, Mir.lowU, Mir.lzpM, Mir.lixM, Mir.lixG, Mir.isLsU, Mir.tupC, Mir.wOf, Mir.frzW, Mir.frzC, Mir.dicM, Mir.nddM, Mir.callV, Mir.callM0, Mir.idxM, Mir.fndS, dd_some, kA]
    have s3 : (asgM (lstM [(tupM [(tupM [(varM 2)]), (tupM []), (tupM [(conM (.int 0))]), (tupM [])]), (tupM [(tupM [(varM 2)]), (tupM []), (tupM []), (tupM [(conM (.int 0))])]), (tupM [(tupM [(varM 2)]), (tupM [(conM (.int 0))]), (tupM [(conM (.int 1))]), (tupM [])]), (tupM [(op2M mulG (tupM [(varM 2)]) (conM (.int 5))), (tupM []), (tupM [(conM (.int 0))]), (tupM [])])]) (namG 3)) (envB d z1 (some kA) none z5 z6 z7 z8 z9 z10 z11 z12) [] = .nx (envB d z1 (some kA) (some (.lst rows1)) z5 z6 z7 z8 z9 z10 z11 z12) [] := by
      simp [envB, Mir.seqM, Mir.retM, Mir.retNM, Mir.drpM, Mir.asgM, Mir.ifM, Mir.toS, Mir.namG, Mir.tupG, Mir.allG, Mir.lsuG, Mir.varM, Mir.conM, Mir.op2M, Mir.op1M, Mir.tstM, Mir.andM, Mir.orM, Mir.notM, Mir.andT, Mir.orT, Mir.notT, Mir.iteM, Mir.chM, Mir.biM, Mir.isM, Mir.callM, Mir.callC, Mir.callN, Mir.argsM, Mir.O.bind, Mir.rd, Mir.rds, Mir.pures, Mir.tupM, Mir.lstM, Mir.nlsM, Mir.slM, Mir.noP, Mir.someP, Mir.slG, Mir.lcM, Mir.nlcM, Mir.wipeE, Mir.seqI, Mir.rng1I, Mir.rng2I, Mir.zpBI, Mir.seqU, Mir.strI, Mir.forM, Mir.setM, Mir.setC, Mir.parsM, Mir.setUs, Mir.meM, Mir.joinG, Mir.splG, Mir.lenG, Mir.intG, Mir.strG, Mir.listG, Mir.tupleG, Mir.isdic, Mir.isE, Mir.ixG, Mir.addG, Mir.subG, Mir.mulOk, Mir.fdivG, Mir.modG, Mir.powG, Mir.negG, Mir.ltG, Mir.leG, Mir.gtG, Mir.geG, Mir.isG, Mir.isNotG, Mir.isNon, Mir.env0, Mir.ins1, Mir.run0, Mir.run1, Mir.runN, Mir.frz, Mir.nxtM, Mir.unM, Mir.appM, Mir.isLst, Mir.kmIx, Mir.kmIn, Mir.scpM, Mir.lowU, Mir.lzpM, Mir.lixM, Mir.lixG, Mir.isLsU, Mir.tupC, Mir.wOf, Mir.frzW, Mir.frzC, Mir.dicM, Mir.nddM, Mir.callV, Mir.callM0, Mir.idxM, Mir.fndS, dd_some, m5, rows1, zs, -List.reduceReplicate]
    have s4 : (asgM (op2M addG (varM 3) (lstM [(tupM [(tupM [(varM 2)]), (op2M mulG (tupM [(conM (.int 0))]) (conM (.int 5))), (tupM [(conM (.int 0))]), (tupM [])]), (tupM [(tupM [(varM 2)]), (op2M mulG (tupM [(conM (.int 0))]) (conM (.int 4))), (op2M mulG (tupM [(conM (.int 0))]) (conM (.int 4))), (op2M mulG (tupM [(conM (.int 0))]) (conM (.int 4)))]), (tupM [(varM 2), (tupM []), (tupM [(conM (.int 0))]), (tupM [])])])) (namG 3)) (envB d z1 (some kA) (some (.lst rows1)) z5 z6 z7 z8 z9 z10 z11 z12) [] = .nx (envB d z1 (some kA) (some (.lst (rows1 ++ rows2))) z5 z6 z7 z8 z9 z10 z11 z12) [] := by
      have a1' : addG (.lst rows1) (.lst [.tup [.tup [kA], zs 5, .tup [.int 0], .tup []], .tup [.tup [kA], zs 4, zs 4, zs 4], .tup [kA, .tup [], .tup [.int 0], .tup []]]) = some (.lst (rows1 ++ rows2)) := a1
      simp [envB, Mir.seqM, Mir.retM, Mir.retNM, Mir.drpM, Mir.asgM, Mir.ifM, Mir.toS, Mir.namG, Mir.tupG, Mir.allG, Mir.lsuG, Mir.varM, Mir.conM, Mir.op2M, Mir.op1M, Mir.tstM, Mir.andM, Mir.orM, Mir.notM, Mir.andT, Mir.orT, Mir.notT, Mir.iteM, Mir.chM, Mir.biM, Mir.isM, Mir.callM, Mir.callC, Mir.callN, Mir.argsM, Mir.O.bind, Mir.rd, Mir.rds, Mir.pures, Mir.tupM, Mir.lstM, Mir.nlsM, Mir.slM, Mir.noP, Mir.someP, Mir.slG, Mir.lcM, Mir.nlcM, Mir.wipeE, Mir.seqI, Mir.rng1I, Mir.rng2I, Mir.zpBI, Mir.seqU, Mir.strI, Mir.forM, Mir.setM, Mir.setC, Mir.parsM, Mir.setUs, Mir.meM, Mir.joinG, Mir.splG, Mir.lenG, Mir.intG, Mir.strG, Mir.listG, Mir.tupleG, Mir.isdic, Mir.isE, Mir.ixG, Mir.subG, Mir.mulOk, Mir.fdivG, Mir.modG, Mir.powG, Mir.negG, Mir.ltG, Mir.leG, Mir.gtG, Mir.geG, Mir.isG, Mir.isNotG, Mir.isNon, Mir.env0, Mir.ins1, Mir.run0, Mir.run1, Mir.runN, Mir.frz, Mir.nxtM, Mir.unM, Mir.appM, Mir.isLst, Mir.kmIx, Mir.kmIn, Mir.scpM, Mir.lowU, Mir.lzpM, Mir.lixM, Mir.lixG, Mir.isLsU, Mir.tupC, Mir.wOf, Mir.frzW, Mir.frzC, Mir.dicM, Mir.nddM, Mir.callV, Mir.callM0, Mir.idxM, Mir.fndS, dd_some, m6, m7, a1']
    have s5 : (asgM (op2M addG (varM 3) (lstM [(tupM [(tupM [(revM (varM 2))]), (tupM []), (tupM [(conM (.int 0))]), (tupM [])]), (tupM [(tupM [(tupM [(tupM [(conM (.str "right")), (conM (.str "left"))]), (tupM [])])]), (tupM []), (tupM [(conM (.int 0))]), (tupM [])]), (tupM [(tupM [(varM 2)]), (lstM []), (tupM [(conM (.int 0))]), (tupM [])])])) (namG 3)) (envB d z1 (some kA) (some (.lst (rows1 ++ rows2))) z5 z6 z7 z8 z9 z10 z11 z12) [] = .nx (envB d z1 (some kA) (some (.lst (rows1 ++ rows2 ++ rows3))) z5 z6 z7 z8 z9 z10 z11 z12) [] := by
      have a2' : addG (.lst (rows1 ++ rows2)) (.lst [.tup [.tup [.tup [.tup [.str "stay"], .tup [.str "left", .str "right"]]], .tup [], .tup [.int 0], .tup []], .tup [.tup [.tup [.tup [.str "right", .str "left"], .tup []]], .tup [], .tup [.int 0], .tup []], .tup [.tup [kA], .lst [], .tup [.int 0], .tup []]]) = some (.lst (rows1 ++ rows2 ++ rows3)) := a2
      simp [envB, Mir.seqM, Mir.retM, Mir.retNM, Mir.drpM, Mir.asgM, Mir.ifM, Mir.toS, Mir.namG, Mir.tupG, Mir.allG, Mir.lsuG, Mir.varM, Mir.conM, Mir.op2M, Mir.op1M, Mir.tstM, Mir.andM, Mir.orM, Mir.notM, Mir.andT, Mir.orT, Mir.notT, Mir.iteM, Mir.chM, Mir.biM, Mir.isM, Mir.callM, Mir.callC, Mir.callN, Mir.argsM, Mir.O.bind, Mir.rd, Mir.rds, Mir.pures, Mir.tupM, Mir.lstM, Mir.nlsM, Mir.slM, Mir.noP, Mir.someP, Mir.slG, Mir.lcM, Mir.nlcM, Mir.wipeE, Mir.seqI, Mir.rng1I, Mir.rng2I, Mir.zpBI, Mir.seqU, Mir.strI, Mir.forM, Mir.setM, Mir.setC, Mir.parsM, Mir.setUs, Mir.meM, Mir.joinG, Mir.splG, Mir.lenG, Mir.intG, Mir.strG, Mir.listG, Mir.tupleG, Mir.isdic, Mir.isE, Mir.ixG, Mir.subG, Mir.mulG, Mir.mulOk, Mir.fdivG, Mir.modG, Mir.powG, Mir.negG, Mir.ltG, Mir.leG, Mir.gtG, Mir.geG, Mir.isG, Mir.isNotG, Mir.isNon, Mir.env0, Mir.ins1, Mir.run0, Mir.run1, Mir.runN, Mir.frz, Mir.nxtM, Mir.unM, Mir.appM, Mir.isLst, Mir.kmIx, Mir.kmIn, Mir.scpM, Mir.lowU, Mir.lzpM, Mir.lixM, Mir.lixG, Mir.isLsU, Mir.tupC, Mir.wOf, Mir.frzW, Mir.frzC, Mir.dicM, Mir.nddM, Mir.callV, Mir.callM0, Mir.idxM, Mir.fndS, dd_some, Mir.revM, rv, a2', -List.append_assoc]
    have s6 : (asgM (op2M addG (varM 3) (lstM [(tupM [(tupM [(tupM [(tupM [(conM (.str "left")), (conM (.str "left"))]), (tupM [])])]), (tupM []), (tupM [(conM (.int 0))]), (tupM [])]), (tupM [(tupM [(tupM [(tupM [(conM (.str "up"))]), (tupM [])])]), (tupM []), (tupM [(conM (.int 0))]), (tupM [])]), (tupM [(tupM []), (tupM []), (tupM [(conM (.int 0))]), (tupM [])])])) (namG 3)) (envB d z1 (some kA) (some (.lst (rows1 ++ rows2 ++ rows3))) z5 z6 z7 z8 z9 z10 z11 z12) [] = .nx (envB d z1 (some kA) (some (.lst rowsA)) z5 z6 z7 z8 z9 z10 z11 z12) [] := by
      have a3' : addG (.lst (rows1 ++ rows2 ++ rows3)) (.lst [.tup [.tup [.tup [.tup [.str "left", .str "left"], .tup []]], .tup [], .tup [.int 0], .tup []], .tup [.tup [.tup [.tup [.str "up"], .tup []]], .tup [], .tup [.int 0], .tup []], .tup [.tup [], .tup [], .tup [.int 0], .tup []]]) = some (.lst rowsA) := a3
      simp [envB, Mir.seqM, Mir.retM, Mir.retNM, Mir.drpM, Mir.asgM, Mir.ifM, Mir.toS, Mir.namG, Mir.tupG, Mir.allG, Mir.lsuG, Mir.varM, Mir.conM, Mir.op2M, Mir.op1M, Mir.tstM, Mir.andM, Mir.orM, Mir.notM, Mir.andT, Mir.orT, Mir.notT, Mir.iteM, Mir.chM, Mir.biM, Mir.isM, Mir.callM, Mir.callC, Mir.callN, Mir.argsM, Mir.O.bind, Mir.rd, Mir.rds, Mir.pures, Mir.tupM, Mir.lstM, Mir.nlsM, Mir.slM, Mir.noP, Mir.someP, Mir.slG, Mir.lcM, Mir.nlcM, Mir.wipeE, Mir.seqI, Mir.rng1I, Mir.rng2I, Mir.zpBI, Mir.seqU, Mir.strI, Mir.forM, Mir.setM, Mir.setC, Mir.parsM, Mir.setUs, Mir.meM, Mir.joinG, Mir.splG, Mir.lenG, Mir.intG, Mir.strG, Mir.listG, Mir.tupleG, Mir.isdic, Mir.isE, Mir.ixG, Mir.subG, Mir.mulG, Mir.mulOk, Mir.fdivG, Mir.modG, Mir.powG, Mir.negG, Mir.ltG, Mir.leG, Mir.gtG, Mir.geG, Mir.isG, Mir.isNotG, Mir.isNon, Mir.env0, Mir.ins1, Mir.run0, Mir.run1, Mir.runN, Mir.frz, Mir.nxtM, Mir.unM, Mir.appM, Mir.isLst, Mir.kmIx, Mir.kmIn, Mir.scpM, Mir.lowU, Mir.lzpM, Mir.lixM, Mir.lixG, Mir.isLsU, Mir.tupC, Mir.wOf, Mir.frzW, Mir.frzC, Mir.dicM, Mir.nddM, Mir.callV, Mir.callM0, Mir.idxM, Mir.fndS, dd_some, a3', -List.append_assoc]
    simp only [s2, s3, s4, s5, s6]
    unfold envB
    simp only [dd_some]
    simp [Mir.seqM, Mir.retM, Mir.retNM, Mir.drpM, Mir.asgM, Mir.ifM, Mir.toS, Mir.namG, Mir.tupG, Mir.allG, Mir.lsuG, Mir.varM, Mir.conM, Mir.op2M, Mir.op1M, Mir.tstM, Mir.andM, Mir.orM, Mir.notM, Mir.andT, Mir.orT, Mir.notT, Mir.iteM, Mir.chM, Mir.biM, Mir.isM, Mir.callM, Mir.callC, Mir.callN, Mir.argsM, Mir.O.bind, Mir.rd, Mir.rds, Mir.pures, Mir.tupM, Mir.lstM, Mir.nlsM, Mir.slM, Mir.noP, Mir.someP, Mir.slG, Mir.lcM, Mir.nlcM, Mir.wipeE, Mir.seqI, Mir.rng1I, Mir.rng2I, Mir.zpBI, Mir.seqU, Mir.strI, Mir.forM, Mir.setM, Mir.setC, Mir.parsM, Mir.setUs, Mir.meM, Mir.joinG, Mir.splG, Mir.lenG, Mir.intG, Mir.strG, Mir.listG, Mir.tupleG, Mir.isdic, Mir.isE, Mir.ixG, Mir.addG, Mir.subG, Mir.mulG, Mir.mulOk, Mir.fdivG, Mir.modG, Mir.powG, Mir.negG, Mir.ltG, Mir.leG, Mir.gtG, Mir.geG, Mir.isG, Mir.isNotG, Mir.isNon, Mir.env0, Mir.ins1, Mir.run0, Mir.run1, Mir.runN, Mir.frz, Mir.nxtM, Mir.unM, Mir.appM, Mir.isLst, Mir.kmIx, Mir.kmIn, Mir.scpM, Mir.lowU, Mir.lzpM, Mir.lixM, Mir.lixG, Mir.isLsU, Mir.tupC, Mir.wOf, Mir.frzW, Mir.frzC, Mir.dicM, Mir.nddM, Mir.callV, Mir.callM0, Mir.idxM, Mir.fndS, hC, en]
  exact ⟨main _ (.inl rfl), main _ (.inr rfl)⟩

def tP (K : PySem.W.Frag) (x : Str) : Addr := ((PySem.W.tabIn K x).getD (0, 0)).2
def tabT (K : PySem.W.Frag) : List (Addr × Str) := [(tP K "_law_right", "_law_right" ++ ".<locals>." ++ "<lambda>"), (tP K "law", "law" ++ ".<locals>." ++ "<lambda>")]
/-! ### what the top has left; the law -/
theorem all_mk {l : PySem.W.OpenLaw} {w : World} {K : PySem.W.Frag} {h : Heap} {mg : Str → Option Value} {fa : Addr} (X : K.In h) (G : h.Ns mainGlobals mg) (hfa : mg "law" = some (.ref fa))
    {f0 : Addr} {od0 an0 : Option Addr} {sl0 : Array (Option Value)} {oc0 kV0 dc0 pm0 cd0 ct0 : Value}
    {f1 : Addr} {od1 an1 : Option Addr} {sl1 : Array (Option Value)} {oc1 kV1 dc1 pm1 cd1 ct1 : Value}
    {f2 : Addr} {od2 an2 : Option Addr} {sl2 : Array (Option Value)} {oc2 kV2 dc2 pm2 cd2 ct2 : Value}
    {f3 : Addr} {od3 an3 : Option Addr} {sl3 : Array (Option Value)} {oc3 kV3 dc3 pm3 cd3 ct3 : Value}
    {f4 : Addr} {od4 an4 : Option Addr} {sl4 : Array (Option Value)} {oc4 kV4 dc4 pm4 cd4 ct4 : Value}
    {f5 : Addr} {od5 an5 : Option Addr} {sl5 : Array (Option Value)} {oc5 kV5 dc5 pm5 cd5 ct5 : Value}
    {f6 : Addr} {od6 an6 : Option Addr} {sl6 : Array (Option Value)} {oc6 kV6 dc6 pm6 cd6 ct6 : Value}
    {f7 : Addr} {od7 an7 : Option Addr} {sl7 : Array (Option Value)} {oc7 kV7 dc7 pm7 cd7 ct7 : Value}
    {f8 : Addr} {od8 an8 : Option Addr} {sl8 : Array (Option Value)} {oc8 kV8 dc8 pm8 cd8 ct8 : Value}
    {f9 : Addr} {od9 an9 : Option Addr} {sl9 : Array (Option Value)} {oc9 kV9 dc9 pm9 cd9 ct9 : Value}
    {f10 : Addr} {od10 an10 : Option Addr} {sl10 : Array (Option Value)} {oc10 kV10 dc10 pm10 cd10 ct10 : Value}
    {f11 : Addr} {od11 an11 : Option Addr} {sl11 : Array (Option Value)} {oc11 kV11 dc11 pm11 cd11 ct11 : Value}
    {f12 : Addr} {od12 an12 : Option Addr} {sl12 : Array (Option Value)} {oc12 kV12 dc12 pm12 cd12 ct12 : Value}
    {f13 : Addr} {od13 an13 : Option Addr} {sl13 : Array (Option Value)} {oc13 kV13 dc13 pm13 cd13 ct13 : Value}
    {f14 : Addr} {od14 an14 : Option Addr} {sl14 : Array (Option Value)} {oc14 kV14 dc14 pm14 cd14 ct14 : Value}
    {f15 : Addr} {od15 an15 : Option Addr} {sl15 : Array (Option Value)} {oc15 kV15 dc15 pm15 cd15 ct15 : Value}
    {f16 : Addr} {od16 an16 : Option Addr} {sl16 : Array (Option Value)} {oc16 kV16 dc16 pm16 cd16 ct16 : Value}
    {f17 : Addr} {od17 an17 : Option Addr} {sl17 : Array (Option Value)} {oc17 kV17 dc17 pm17 cd17 ct17 : Value}
    {f18 : Addr} {od18 an18 : Option Addr} {sl18 : Array (Option Value)} {oc18 kV18 dc18 pm18 cd18 ct18 : Value}
    {f19 : Addr} {od19 an19 : Option Addr} {sl19 : Array (Option Value)} {oc19 kV19 dc19 pm19 cd19 ct19 : Value}
    {f20 : Addr} {od20 an20 : Option Addr} {sl20 : Array (Option Value)} {oc20 kV20 dc20 pm20 cd20 ct20 : Value}
    {f21 : Addr} {od21 an21 : Option Addr} {sl21 : Array (Option Value)} {oc21 kV21 dc21 pm21 cd21 ct21 : Value}
    {f22 : Addr} {od22 an22 : Option Addr} {sl22 : Array (Option Value)} {oc22 kV22 dc22 pm22 cd22 ct22 : Value}
    {f23 : Addr} {od23 an23 : Option Addr} {sl23 : Array (Option Value)} {oc23 kV23 dc23 pm23 cd23 ct23 : Value}
    {f24 : Addr} {od24 an24 : Option Addr} {sl24 : Array (Option Value)} {oc24 kV24 dc24 pm24 cd24 ct24 : Value}
    {f25 : Addr} {od25 an25 : Option Addr} {sl25 : Array (Option Value)} {oc25 kV25 dc25 pm25 ct25 : Value}
    {cc25 : Addr}
    {f26 : Addr} {od26 an26 : Option Addr} {sl26 : Array (Option Value)} {oc26 kV26 dc26 pm26 ct26 : Value}
    {cc26 : Addr}
    {u_MANY : Value}
    {u_MOST : Value}
    {u_WAYS : Value}
    {C_InvalidNumber : Addr}
    {C_InvalidRoad : Addr}
    {D_RoadError : Addr}
    (a0 : PySem.W.nsIn K mainGlobals "is_number" = some (some (.ref f0))) (l0 : K.lookup f0 = some ⟨oc0, od0, .func (PySem.W.fnOf "is_number" "is_number" (defArgs s_is_number) (defBody s_is_number) (defScope s_is_number) .none kV0 dc0 pm0 an0 cd0 ct0), sl0⟩) (c0 : PySem.W.codeIn K cd0 "is_number" = true) (k0 : PySem.W.keepIn K (.ref f0) = true)
    (a1 : PySem.W.nsIn K mainGlobals "are_ways" = some (some (.ref f1))) (l1 : K.lookup f1 = some ⟨oc1, od1, .func (PySem.W.fnOf "are_ways" "are_ways" (defArgs s_are_ways) (defBody s_are_ways) (defScope s_are_ways) .none kV1 dc1 pm1 an1 cd1 ct1), sl1⟩) (c1 : PySem.W.codeIn K cd1 "are_ways" = true) (k1 : PySem.W.keepIn K (.ref f1) = true)
    (a2 : PySem.W.nsIn K mainGlobals "is_kind" = some (some (.ref f2))) (l2 : K.lookup f2 = some ⟨oc2, od2, .func (PySem.W.fnOf "is_kind" "is_kind" (defArgs s_is_kind) (defBody s_is_kind) (defScope s_is_kind) .none kV2 dc2 pm2 an2 cd2 ct2), sl2⟩) (c2 : PySem.W.codeIn K cd2 "is_kind" = true) (k2 : PySem.W.keepIn K (.ref f2) = true)
    (a3 : PySem.W.nsIn K mainGlobals "are_kinds" = some (some (.ref f3))) (l3 : K.lookup f3 = some ⟨oc3, od3, .func (PySem.W.fnOf "are_kinds" "are_kinds" (defArgs s_are_kinds) (defBody s_are_kinds) (defScope s_are_kinds) .none kV3 dc3 pm3 an3 cd3 ct3), sl3⟩) (c3 : PySem.W.codeIn K cd3 "are_kinds" = true) (k3 : PySem.W.keepIn K (.ref f3) = true)
    (a4 : PySem.W.nsIn K mainGlobals "is_stretch_of" = some (some (.ref f4))) (l4 : K.lookup f4 = some ⟨oc4, od4, .func (PySem.W.fnOf "is_stretch_of" "is_stretch_of" (defArgs s_is_stretch_of) (defBody s_is_stretch_of) (defScope s_is_stretch_of) .none kV4 dc4 pm4 an4 cd4 ct4), sl4⟩) (c4 : PySem.W.codeIn K cd4 "is_stretch_of" = true) (k4 : PySem.W.keepIn K (.ref f4) = true)
    (a5 : PySem.W.nsIn K mainGlobals "is_road_of" = some (some (.ref f5))) (l5 : K.lookup f5 = some ⟨oc5, od5, .func (PySem.W.fnOf "is_road_of" "is_road_of" (defArgs s_is_road_of) (defBody s_is_road_of) (defScope s_is_road_of) .none kV5 dc5 pm5 an5 cd5 ct5), sl5⟩) (c5 : PySem.W.codeIn K cd5 "is_road_of" = true) (k5 : PySem.W.keepIn K (.ref f5) = true)
    (a6 : PySem.W.nsIn K mainGlobals "need_road" = some (some (.ref f6))) (l6 : K.lookup f6 = some ⟨oc6, od6, .func (PySem.W.fnOf "need_road" "need_road" (defArgs s_need_road) (defBody s_need_road) (defScope s_need_road) .none kV6 dc6 pm6 an6 cd6 ct6), sl6⟩) (c6 : PySem.W.codeIn K cd6 "need_road" = true) (k6 : PySem.W.keepIn K (.ref f6) = true)
    (a7 : PySem.W.nsIn K mainGlobals "need_number" = some (some (.ref f7))) (l7 : K.lookup f7 = some ⟨oc7, od7, .func (PySem.W.fnOf "need_number" "need_number" (defArgs s_need_number) (defBody s_need_number) (defScope s_need_number) .none kV7 dc7 pm7 an7 cd7 ct7), sl7⟩) (c7 : PySem.W.codeIn K cd7 "need_number" = true) (k7 : PySem.W.keepIn K (.ref f7) = true)
    (a8 : PySem.W.nsIn K mainGlobals "length_of" = some (some (.ref f8))) (l8 : K.lookup f8 = some ⟨oc8, od8, .func (PySem.W.fnOf "length_of" "length_of" (defArgs s_length_of) (defBody s_length_of) (defScope s_length_of) .none kV8 dc8 pm8 an8 cd8 ct8), sl8⟩) (c8 : PySem.W.codeIn K cd8 "length_of" = true) (k8 : PySem.W.keepIn K (.ref f8) = true)
    (a9 : PySem.W.nsIn K mainGlobals "cells_of" = some (some (.ref f9))) (l9 : K.lookup f9 = some ⟨oc9, od9, .func (PySem.W.fnOf "cells_of" "cells_of" (defArgs s_cells_of) (defBody s_cells_of) (defScope s_cells_of) .none kV9 dc9 pm9 an9 cd9 ct9), sl9⟩) (c9 : PySem.W.codeIn K cd9 "cells_of" = true) (k9 : PySem.W.keepIn K (.ref f9) = true)
    (a10 : PySem.W.nsIn K mainGlobals "is_road" = some (some (.ref f10))) (l10 : K.lookup f10 = some ⟨oc10, od10, .func (PySem.W.fnOf "is_road" "is_road" (defArgs s_is_road) (defBody s_is_road) (defScope s_is_road) .none kV10 dc10 pm10 an10 cd10 ct10), sl10⟩) (c10 : PySem.W.codeIn K cd10 "is_road" = true) (k10 : PySem.W.keepIn K (.ref f10) = true)
    (a11 : PySem.W.nsIn K mainGlobals "cells" = some (some (.ref f11))) (l11 : K.lookup f11 = some ⟨oc11, od11, .func (PySem.W.fnOf "cells" "cells" (defArgs s_cells) (defBody s_cells) (defScope s_cells) .none kV11 dc11 pm11 an11 cd11 ct11), sl11⟩) (c11 : PySem.W.codeIn K cd11 "cells" = true) (k11 : PySem.W.keepIn K (.ref f11) = true)
    (a12 : PySem.W.nsIn K mainGlobals "_law_sack" = some (some (.ref f12))) (l12 : K.lookup f12 = some ⟨oc12, od12, .func (PySem.W.fnOf "_law_sack" "_law_sack" (defArgs s__law_sack) (defBody s__law_sack) (defScope s__law_sack) .none kV12 dc12 pm12 an12 cd12 ct12), sl12⟩) (c12 : PySem.W.codeIn K cd12 "_law_sack" = true) (k12 : PySem.W.keepIn K (.ref f12) = true)
    (a13 : PySem.W.nsIn K mainGlobals "_law_grip" = some (some (.ref f13))) (l13 : K.lookup f13 = some ⟨oc13, od13, .func (PySem.W.fnOf "_law_grip" "_law_grip" (defArgs s__law_grip) (defBody s__law_grip) (defScope s__law_grip) .none kV13 dc13 pm13 an13 cd13 ct13), sl13⟩) (c13 : PySem.W.codeIn K cd13 "_law_grip" = true) (k13 : PySem.W.keepIn K (.ref f13) = true)
    (a14 : PySem.W.nsIn K mainGlobals "_law_pick" = some (some (.ref f14))) (l14 : K.lookup f14 = some ⟨oc14, od14, .func (PySem.W.fnOf "_law_pick" "_law_pick" (defArgs s__law_pick) (defBody s__law_pick) (defScope s__law_pick) .none kV14 dc14 pm14 an14 cd14 ct14), sl14⟩) (c14 : PySem.W.codeIn K cd14 "_law_pick" = true) (k14 : PySem.W.keepIn K (.ref f14) = true)
    (a15 : PySem.W.nsIn K mainGlobals "_law_ways" = some (some (.ref f15))) (l15 : K.lookup f15 = some ⟨oc15, od15, .func (PySem.W.fnOf "_law_ways" "_law_ways" (defArgs s__law_ways) (defBody s__law_ways) (defScope s__law_ways) .none kV15 dc15 pm15 an15 cd15 ct15), sl15⟩) (c15 : PySem.W.codeIn K cd15 "_law_ways" = true) (k15 : PySem.W.keepIn K (.ref f15) = true)
    (a16 : PySem.W.nsIn K mainGlobals "_law_kinds" = some (some (.ref f16))) (l16 : K.lookup f16 = some ⟨oc16, od16, .func (PySem.W.fnOf "_law_kinds" "_law_kinds" (defArgs s__law_kinds) (defBody s__law_kinds) (defScope s__law_kinds) .none kV16 dc16 pm16 an16 cd16 ct16), sl16⟩) (c16 : PySem.W.codeIn K cd16 "_law_kinds" = true) (k16 : PySem.W.keepIn K (.ref f16) = true)
    (a17 : PySem.W.nsIn K mainGlobals "_law_cells" = some (some (.ref f17))) (l17 : K.lookup f17 = some ⟨oc17, od17, .func (PySem.W.fnOf "_law_cells" "_law_cells" (defArgs s__law_cells) (defBody s__law_cells) (defScope s__law_cells) .none kV17 dc17 pm17 an17 cd17 ct17), sl17⟩) (c17 : PySem.W.codeIn K cd17 "_law_cells" = true) (k17 : PySem.W.keepIn K (.ref f17) = true)
    (a18 : PySem.W.nsIn K mainGlobals "_law_road" = some (some (.ref f18))) (l18 : K.lookup f18 = some ⟨oc18, od18, .func (PySem.W.fnOf "_law_road" "_law_road" (defArgs s__law_road) (defBody s__law_road) (defScope s__law_road) .none kV18 dc18 pm18 an18 cd18 ct18), sl18⟩) (c18 : PySem.W.codeIn K cd18 "_law_road" = true) (k18 : PySem.W.keepIn K (.ref f18) = true)
    (a19 : PySem.W.nsIn K mainGlobals "_law_int" = some (some (.ref f19))) (l19 : K.lookup f19 = some ⟨oc19, od19, .func (PySem.W.fnOf "_law_int" "_law_int" (defArgs s__law_int) (defBody s__law_int) (defScope s__law_int) .none kV19 dc19 pm19 an19 cd19 ct19), sl19⟩) (c19 : PySem.W.codeIn K cd19 "_law_int" = true) (k19 : PySem.W.keepIn K (.ref f19) = true)
    (a20 : PySem.W.nsIn K mainGlobals "_law_are_kinds" = some (some (.ref f20))) (l20 : K.lookup f20 = some ⟨oc20, od20, .func (PySem.W.fnOf "_law_are_kinds" "_law_are_kinds" (defArgs s__law_are_kinds) (defBody s__law_are_kinds) (defScope s__law_are_kinds) .none kV20 dc20 pm20 an20 cd20 ct20), sl20⟩) (c20 : PySem.W.codeIn K cd20 "_law_are_kinds" = true) (k20 : PySem.W.keepIn K (.ref f20) = true)
    (a21 : PySem.W.nsIn K mainGlobals "_law_is_road" = some (some (.ref f21))) (l21 : K.lookup f21 = some ⟨oc21, od21, .func (PySem.W.fnOf "_law_is_road" "_law_is_road" (defArgs s__law_is_road) (defBody s__law_is_road) (defScope s__law_is_road) .none kV21 dc21 pm21 an21 cd21 ct21), sl21⟩) (c21 : PySem.W.codeIn K cd21 "_law_is_road" = true) (k21 : PySem.W.keepIn K (.ref f21) = true)
    (a22 : PySem.W.nsIn K mainGlobals "_law_odd" = some (some (.ref f22))) (l22 : K.lookup f22 = some ⟨oc22, od22, .func (PySem.W.fnOf "_law_odd" "_law_odd" (defArgs s__law_odd) (defBody s__law_odd) (defScope s__law_odd) .none kV22 dc22 pm22 an22 cd22 ct22), sl22⟩) (c22 : PySem.W.codeIn K cd22 "_law_odd" = true) (k22 : PySem.W.keepIn K (.ref f22) = true)
    (a23 : PySem.W.nsIn K mainGlobals "_law_bent" = some (some (.ref f23))) (l23 : K.lookup f23 = some ⟨oc23, od23, .func (PySem.W.fnOf "_law_bent" "_law_bent" (defArgs s__law_bent) (defBody s__law_bent) (defScope s__law_bent) .none kV23 dc23 pm23 an23 cd23 ct23), sl23⟩) (c23 : PySem.W.codeIn K cd23 "_law_bent" = true) (k23 : PySem.W.keepIn K (.ref f23) = true)
    (a24 : PySem.W.nsIn K mainGlobals "_law_word" = some (some (.ref f24))) (l24 : K.lookup f24 = some ⟨oc24, od24, .func (PySem.W.fnOf "_law_word" "_law_word" (defArgs s__law_word) (defBody s__law_word) (defScope s__law_word) .none kV24 dc24 pm24 an24 cd24 ct24), sl24⟩) (c24 : PySem.W.codeIn K cd24 "_law_word" = true) (k24 : PySem.W.keepIn K (.ref f24) = true)
    (a25 : PySem.W.nsIn K mainGlobals "_law_right" = some (some (.ref f25))) (l25 : K.lookup f25 = some ⟨oc25, od25, .func (PySem.W.fnOf "_law_right" "_law_right" (defArgs s__law_right) (defBody s__law_right) (defScope s__law_right) .none kV25 dc25 pm25 an25 (.ref cc25) ct25), sl25⟩) (c25 : PySem.W.codeIn K (.ref cc25) "_law_right" = true) (k25 : PySem.W.keepIn K (.ref f25) = true)
    (a26 : PySem.W.nsIn K mainGlobals "law" = some (some (.ref f26))) (l26 : K.lookup f26 = some ⟨oc26, od26, .func (PySem.W.fnOf "law" "law" (defArgs s_law) (defBody s_law) (defScope s_law) .none kV26 dc26 pm26 an26 (.ref cc26) ct26), sl26⟩) (c26 : PySem.W.codeIn K (.ref cc26) "law" = true) (k26 : PySem.W.keepIn K (.ref f26) = true)
    (th25 : PySem.W.CodeHd h cc25 (tP K "_law_right") ∧ h.get? (tP K "_law_right") = some (PySem.W.tabObj #[])) (tn25 : K.lookup (tP K "_law_right") = none)
    (th26 : PySem.W.CodeHd h cc26 (tP K "law") ∧ h.get? (tP K "law") = some (PySem.W.tabObj #[])) (tn26 : K.lookup (tP K "law") = none)
    (ne__law_right_law : tP K "_law_right" ≠ tP K "law")
    (z_all : PySem.W.nsIn K mainGlobals "all" = some none)
    (z_bool : PySem.W.nsIn K mainGlobals "bool" = some none)
    (z_int : PySem.W.nsIn K mainGlobals "int" = some none)
    (z_isinstance : PySem.W.nsIn K mainGlobals "isinstance" = some none)
    (z_len : PySem.W.nsIn K mainGlobals "len" = some none)
    (z_list : PySem.W.nsIn K mainGlobals "list" = some none)
    (z_range : PySem.W.nsIn K mainGlobals "range" = some none)
    (z_set : PySem.W.nsIn K mainGlobals "set" = some none)
    (z_sorted : PySem.W.nsIn K mainGlobals "sorted" = some none)
    (z_str : PySem.W.nsIn K mainGlobals "str" = some none)
    (z_tuple : PySem.W.nsIn K mainGlobals "tuple" = some none)
    (z_zip : PySem.W.nsIn K mainGlobals "zip" = some none)
    (n_MANY : PySem.W.nsIn K mainGlobals "MANY" = some (some u_MANY))
    (v_MANY : KVal K K_MANY u_MANY)
    (n_MOST : PySem.W.nsIn K mainGlobals "MOST" = some (some u_MOST))
    (v_MOST : KVal K K_MOST u_MOST)
    (n_WAYS : PySem.W.nsIn K mainGlobals "WAYS" = some (some u_WAYS))
    (v_WAYS : KVal K K_WAYS u_WAYS)
    (g_InvalidNumber : PySem.W.nsIn K mainGlobals "InvalidNumber" = some (some (.ref C_InvalidNumber))) (x_InvalidNumber : PySem.W.excIn K C_InvalidNumber [.type "ValueError", .type "Exception", .type "BaseException", .type "object"] "ValueError.__new__" = true) (kp_InvalidNumber : PySem.W.keepIn K (.ref C_InvalidNumber) = true) (sb_InvalidNumber : PySem.W.subIn K (.ref C_InvalidNumber) (.type "BaseException") = some true) (ty_InvalidNumber : PySem.W.typeIn K (.ref C_InvalidNumber) = some (.type "type"))
    (g_InvalidRoad : PySem.W.nsIn K mainGlobals "InvalidRoad" = some (some (.ref C_InvalidRoad))) (x_InvalidRoad : PySem.W.excIn K C_InvalidRoad [.type "ValueError", .type "Exception", .type "BaseException", .type "object"] "ValueError.__new__" = true) (kp_InvalidRoad : PySem.W.keepIn K (.ref C_InvalidRoad) = true) (sb_InvalidRoad : PySem.W.subIn K (.ref C_InvalidRoad) (.type "BaseException") = some true) (ty_InvalidRoad : PySem.W.typeIn K (.ref C_InvalidRoad) = some (.type "type"))
    (gd_RoadError : PySem.W.nsIn K mainGlobals "RoadError" = some (some (.ref D_RoadError)))
    (sbd_RoadError : PySem.W.subIn K (.ref D_RoadError) (.type "BaseException") = some true) (tyd_RoadError : PySem.W.typeIn K (.ref D_RoadError) = some (.type "type"))
    (ic_InvalidNumber : PySem.W.isClsIn K C_InvalidNumber = true)
    (ic_InvalidRoad : PySem.W.isClsIn K C_InvalidRoad = true)
    (ic_RoadError : PySem.W.isClsIn K D_RoadError = true)
    (su_InvalidNumber_InvalidNumber : PySem.W.subIn K (.ref C_InvalidNumber) (.ref C_InvalidNumber) = some true)
    (su_InvalidNumber_InvalidRoad : PySem.W.subIn K (.ref C_InvalidNumber) (.ref C_InvalidRoad) = some false)
    (su_InvalidNumber_RoadError : PySem.W.subIn K (.ref C_InvalidNumber) (.ref D_RoadError) = some true)
    (su_InvalidRoad_InvalidNumber : PySem.W.subIn K (.ref C_InvalidRoad) (.ref C_InvalidNumber) = some false)
    (su_InvalidRoad_InvalidRoad : PySem.W.subIn K (.ref C_InvalidRoad) (.ref C_InvalidRoad) = some true)
    (su_InvalidRoad_RoadError : PySem.W.subIn K (.ref C_InvalidRoad) (.ref D_RoadError) = some true)
    : LamX.LawAtS l w K (L2.CX l.prog w) 30 63 "script" mg fa h := by
  have e := hfa.symm.trans (PySem.W.mg_of X G a26)
  cases e
  have hT : ∀ p ∈ ([(cc25, tP K "_law_right"), (cc26, tP K "law")] : List (Addr × Addr)), h.get? p.2 = some { cls := .none, data := .fields #[] } := by
    intro p hp
    simp only [List.mem_cons, List.not_mem_nil, or_false] at hp
    rcases hp with rfl | rfl
    · exact th25.2
    · exact th26.2
  have nT : ∀ p ∈ ([(cc25, tP K "_law_right"), (cc26, tP K "law")] : List (Addr × Addr)), K.lookup p.2 = none := by
    intro p hp
    simp only [List.mem_cons, List.not_mem_nil, or_false] at hp
    rcases hp with rfl | rfl
    · exact tn25
    · exact tn26
  have hC : ∀ p ∈ ([(cc25, tP K "_law_right"), (cc26, tP K "law")] : List (Addr × Addr)), PySem.W.CodeHd h p.1 p.2 := by
    intro p hp
    simp only [List.mem_cons, List.not_mem_nil, or_false] at hp
    rcases hp with rfl | rfl
    · exact th25.1
    · exact th26.1
  refine ⟨PySem.W.fnOf "law" "law" (defArgs s_law) (defBody s_law) (defScope s_law) .none kV26 dc26 pm26 an26 (.ref cc26) ct26, [(cc25, tP K "_law_right"), (cc26, tP K "law")], spLawT K (tabT K), hT, nT, hC, fun s v => .of_eq rfl, fun H a ns hl _ hT2 hS => ⟨a, ns, rfl, hl, hS, fun p hp => ?_, fun _ => rfl⟩, fun base X2 G2 TB => ?_⟩
  · simp only [tabT, List.mem_cons, List.not_mem_nil, or_false] at hp
    rcases hp with rfl | rfl
    · exact hT2 (cc25, tP K "_law_right") (by simp)
    · exact hT2 (cc26, tP K "law") (by simp)
  have hsub : XS ⟨l.prog, w, K, mg, (tabT K)⟩ sub_t := by
    intro p hp
    simp only [sub_t, List.mem_cons, List.not_mem_nil, or_false] at hp
    rcases hp with rfl | rfl | rfl | rfl | rfl | rfl
    · exact ⟨_, _, PySem.W.mg_of X G g_InvalidNumber, PySem.W.mg_of X G g_InvalidNumber, exm_is sb_InvalidNumber ic_InvalidNumber ty_InvalidNumber su_InvalidNumber_InvalidNumber⟩
    · exact ⟨_, _, PySem.W.mg_of X G g_InvalidNumber, PySem.W.mg_of X G g_InvalidRoad, exm_is sb_InvalidRoad ic_InvalidRoad ty_InvalidRoad su_InvalidNumber_InvalidRoad⟩
    · exact ⟨_, _, PySem.W.mg_of X G g_InvalidNumber, PySem.W.mg_of X G gd_RoadError, exm_is sbd_RoadError ic_RoadError tyd_RoadError su_InvalidNumber_RoadError⟩
    · exact ⟨_, _, PySem.W.mg_of X G g_InvalidRoad, PySem.W.mg_of X G g_InvalidNumber, exm_is sb_InvalidNumber ic_InvalidNumber ty_InvalidNumber su_InvalidRoad_InvalidNumber⟩
    · exact ⟨_, _, PySem.W.mg_of X G g_InvalidRoad, PySem.W.mg_of X G g_InvalidRoad, exm_is sb_InvalidRoad ic_InvalidRoad ty_InvalidRoad su_InvalidRoad_InvalidRoad⟩
    · exact ⟨_, _, PySem.W.mg_of X G g_InvalidRoad, PySem.W.mg_of X G gd_RoadError, exm_is sbd_RoadError ic_RoadError tyd_RoadError su_InvalidRoad_RoadError⟩
  have B : Bn l.prog w K mg (tabT K) := { all := PySem.W.mg_none_of X G z_all, bool := PySem.W.mg_none_of X G z_bool, int := PySem.W.mg_none_of X G z_int, isinstance := PySem.W.mg_none_of X G z_isinstance, len := PySem.W.mg_none_of X G z_len, list := PySem.W.mg_none_of X G z_list, range := PySem.W.mg_none_of X G z_range, set := PySem.W.mg_none_of X G z_set, sorted := PySem.W.mg_none_of X G z_sorted, str := PySem.W.mg_none_of X G z_str, tuple := PySem.W.mg_none_of X G z_tuple, zip := PySem.W.mg_none_of X G z_zip, k_MANY := kd_of X G n_MANY v_MANY, k_MOST := kd_of X G n_MOST v_MOST, k_WAYS := kd_of X G n_WAYS v_WAYS, x_InvalidNumber := ⟨C_InvalidNumber, PySem.W.mg_of X G g_InvalidNumber, x_InvalidNumber, kp_InvalidNumber, sb_InvalidNumber, ty_InvalidNumber⟩, x_InvalidRoad := ⟨C_InvalidRoad, PySem.W.mg_of X G g_InvalidRoad, x_InvalidRoad, kp_InvalidRoad, sb_InvalidRoad, ty_InvalidRoad⟩, c_InvalidNumber := ⟨C_InvalidNumber, PySem.W.mg_of X G g_InvalidNumber⟩, c_InvalidRoad := ⟨C_InvalidRoad, PySem.W.mg_of X G g_InvalidRoad⟩, c_RoadError := ⟨D_RoadError, PySem.W.mg_of X G gd_RoadError⟩, sub := hsub }
  have lc25 : Lc base mg (tabT K) cc25 (tP K "_law_right") ("_law_right" ++ ".<locals>." ++ "<lambda>") := ⟨TB (cc25, tP K "_law_right") (by simp), by simp [tabT], by
    intro p hp e
    simp only [tabT, List.mem_cons, List.not_mem_nil, or_false] at hp
    rcases hp with rfl | rfl
    · rfl
    · exact absurd e.symm ne__law_right_law⟩
  have lc26 : Lc base mg (tabT K) cc26 (tP K "law") ("law" ++ ".<locals>." ++ "<lambda>") := ⟨TB (cc26, tP K "law") (by simp), by simp [tabT], by
    intro p hp e
    simp only [tabT, List.mem_cons, List.not_mem_nil, or_false] at hp
    rcases hp with rfl | rfl
    · exact absurd e ne__law_right_law
    · rfl⟩
  have F0 := fun_mk (st := s_is_number) l0 c0 k0
  have b0 := F0.binds (ps := p_is_number) fun _ _ _ _ _ _ us hl => match us, hl with | [_, _, _], _ => rfl
  have H_is_number : ∀ k, 1 ≤ k → Kn ⟨l.prog, w, K, mg, tabT K⟩ base k "is_number" (sp0 ⟨l.prog, w, K, mg, tabT K⟩ 3 F_is_number) := fun k hk => kn_of X G (ok_is_number (k := 0) B  F0) a0 k0 b0 hk
  have F1 := fun_mk (st := s_are_ways) l1 c1 k1
  have b1 := F1.binds (ps := p_are_ways) fun _ _ _ _ _ _ us hl => match us, hl with | [_], _ => rfl
  have H_are_ways : ∀ k, 1 ≤ k → Kn ⟨l.prog, w, K, mg, tabT K⟩ base k "are_ways" (sp0 ⟨l.prog, w, K, mg, tabT K⟩ 1 F_are_ways) := fun k hk => kn_of X G (ok_are_ways (k := 0) B  F1) a1 k1 b1 hk
  have F2 := fun_mk (st := s_is_kind) l2 c2 k2
  have b2 := F2.binds (ps := p_is_kind) fun _ _ _ _ _ _ us hl => match us, hl with | [_], _ => rfl
  have H_is_kind : ∀ k, 2 ≤ k → Kn ⟨l.prog, w, K, mg, tabT K⟩ base k "is_kind" (sp0 ⟨l.prog, w, K, mg, tabT K⟩ 1 F_is_kind) := fun k hk => kn_of X G (ok_is_kind (k := 1) B (H_are_ways 1 (by decide)) F2) a2 k2 b2 hk
  have F3 := fun_mk (st := s_are_kinds) l3 c3 k3
  have b3 := F3.binds (ps := p_are_kinds) fun _ _ _ _ _ _ us hl => match us, hl with | [_], _ => rfl
  have H_are_kinds : ∀ k, 3 ≤ k → Kn ⟨l.prog, w, K, mg, tabT K⟩ base k "are_kinds" (sp0 ⟨l.prog, w, K, mg, tabT K⟩ 1 F_are_kinds) := fun k hk => kn_of X G (ok_are_kinds (k := 2) B (H_is_kind 2 (by decide)) F3) a3 k3 b3 hk
  have F4 := fun_mk (st := s_is_stretch_of) l4 c4 k4
  have b4 := F4.binds (ps := p_is_stretch_of) fun _ _ _ _ _ _ us hl => match us, hl with | [_, _, _], _ => rfl
  have H_is_stretch_of : ∀ k, 2 ≤ k → Kn ⟨l.prog, w, K, mg, tabT K⟩ base k "is_stretch_of" (sp0 ⟨l.prog, w, K, mg, tabT K⟩ 3 F_is_stretch_of) := fun k hk => kn_of X G (ok_is_stretch_of (k := 1) B (H_is_number 1 (by decide)) F4) a4 k4 b4 hk
  have F5 := fun_mk (st := s_is_road_of) l5 c5 k5
  have b5 := F5.binds (ps := p_is_road_of) fun _ _ _ _ _ _ us hl => match us, hl with | [_], _ => rfl
  have H_is_road_of : ∀ k, 4 ≤ k → Kn ⟨l.prog, w, K, mg, tabT K⟩ base k "is_road_of" (sp0 ⟨l.prog, w, K, mg, tabT K⟩ 1 F_is_road_of) := fun k hk => kn_of X G (ok_is_road_of (k := 3) B (H_are_kinds 3 (by decide)) (H_is_stretch_of 3 (by decide)) F5) a5 k5 b5 hk
  have F6 := fun_mk (st := s_need_road) l6 c6 k6
  have b6 := F6.binds (ps := p_need_road) fun _ _ _ _ _ _ us hl => match us, hl with | [_], _ => rfl
  have H_need_road : ∀ k, 5 ≤ k → Kn ⟨l.prog, w, K, mg, tabT K⟩ base k "need_road" (sp0 ⟨l.prog, w, K, mg, tabT K⟩ 1 F_need_road) := fun k hk => kn_of X G (ok_need_road (k := 4) B (H_is_road_of 4 (by decide)) F6) a6 k6 b6 hk
  have F7 := fun_mk (st := s_need_number) l7 c7 k7
  have b7 := F7.binds (ps := p_need_number) fun _ _ _ _ _ _ us hl => match us, hl with | [_, _, _], _ => rfl
  have H_need_number : ∀ k, 2 ≤ k → Kn ⟨l.prog, w, K, mg, tabT K⟩ base k "need_number" (sp0 ⟨l.prog, w, K, mg, tabT K⟩ 3 F_need_number) := fun k hk => kn_of X G (ok_need_number (k := 1) B (H_is_number 1 (by decide)) F7) a7 k7 b7 hk
  have F8 := fun_mk (st := s_length_of) l8 c8 k8
  have b8 := F8.binds (ps := p_length_of) fun _ _ _ _ _ _ us hl => match us, hl with | [_, _], _ => rfl
  have H_length_of : ∀ k, 1 ≤ k → Kn ⟨l.prog, w, K, mg, tabT K⟩ base k "length_of" (sp0 ⟨l.prog, w, K, mg, tabT K⟩ 2 F_length_of) := fun k hk => kn_of X G (ok_length_of (k := 0) B  F8) a8 k8 b8 hk
  have F9 := fun_mk (st := s_cells_of) l9 c9 k9
  have b9 := F9.binds (ps := p_cells_of) fun _ _ _ _ _ _ us hl => match us, hl with | [_, _], _ => rfl
  have H_cells_of : ∀ k, 1 ≤ k → Kn ⟨l.prog, w, K, mg, tabT K⟩ base k "cells_of" (sp0 ⟨l.prog, w, K, mg, tabT K⟩ 2 F_cells_of) := fun k hk => kn_of X G (ok_cells_of (k := 0) B  F9) a9 k9 b9 hk
  have F10 := fun_mk (st := s_is_road) l10 c10 k10
  have b10 := F10.binds (ps := p_is_road) fun _ _ _ _ _ _ us hl => match us, hl with | [_], _ => rfl
  have H_is_road : ∀ k, 5 ≤ k → Kn ⟨l.prog, w, K, mg, tabT K⟩ base k "is_road" (sp0 ⟨l.prog, w, K, mg, tabT K⟩ 1 F_is_road) := fun k hk => kn_of X G (ok_is_road (k := 4) B (H_is_road_of 4 (by decide)) F10) a10 k10 b10 hk
  have F11 := fun_mk (st := s_cells) l11 c11 k11
  have b11 := F11.binds (ps := p_cells) fun _ _ _ _ _ _ us hl => match us, hl with | [_, _], _ => rfl
  have H_cells : ∀ k, 6 ≤ k → Kn ⟨l.prog, w, K, mg, tabT K⟩ base k "cells" (sp0 ⟨l.prog, w, K, mg, tabT K⟩ 2 F_cells) := fun k hk => kn_of X G (ok_cells (k := 5) B (H_need_road 5 (by decide)) (H_need_number 5 (by decide)) (H_length_of 5 (by decide)) (H_cells_of 5 (by decide)) F11) a11 k11 b11 hk
  have F12 := fun_mk (st := s__law_sack) l12 c12 k12
  have b12 := F12.binds (ps := p__law_sack) fun _ _ _ _ _ _ us hl => match us, hl with | [_, _], _ => rfl
  have H__law_sack : ∀ k, 1 ≤ k → Kn ⟨l.prog, w, K, mg, tabT K⟩ base k "_law_sack" (spN ⟨l.prog, w, K, mg, tabT K⟩ 2 F__law_sack) := fun k hk => kn_of X G (ok__law_sack (k := 0) B  F12) a12 k12 b12 hk
  have F13 := fun_mk (st := s__law_grip) l13 c13 k13
  have b13 := F13.binds (ps := p__law_grip) fun _ _ _ _ _ _ us hl => match us, hl with | [_, _], _ => rfl
  have H__law_grip : ∀ k, 1 ≤ k → Kn ⟨l.prog, w, K, mg, tabT K⟩ base k "_law_grip" (sp1 ⟨l.prog, w, K, mg, tabT K⟩ 2 0 F__law_grip) := fun k hk => kn_of X G (ok__law_grip (k := 0) B  F13) a13 k13 b13 hk
  have F14 := fun_mk (st := s__law_pick) l14 c14 k14
  have b14 := F14.binds (ps := p__law_pick) fun _ _ _ _ _ _ us hl => match us, hl with | [_, _], _ => rfl
  have H__law_pick : ∀ k, 2 ≤ k → Kn ⟨l.prog, w, K, mg, tabT K⟩ base k "_law_pick" (sp1 ⟨l.prog, w, K, mg, tabT K⟩ 2 0 F__law_pick) := fun k hk => kn_of X G (ok__law_pick (k := 1) B (H__law_grip 1 (by decide)) F14) a14 k14 b14 hk
  have F15 := fun_mk (st := s__law_ways) l15 c15 k15
  have b15 := F15.binds (ps := p__law_ways) fun _ _ _ _ _ _ us hl => match us, hl with | [_], _ => rfl
  have H__law_ways : ∀ k, 3 ≤ k → Kn ⟨l.prog, w, K, mg, tabT K⟩ base k "_law_ways" (sp1 ⟨l.prog, w, K, mg, tabT K⟩ 1 0 F__law_ways) := fun k hk => kn_of X G (ok__law_ways (k := 2) B (H__law_pick 2 (by decide)) F15) a15 k15 b15 hk
  have F16 := fun_mk (st := s__law_kinds) l16 c16 k16
  have b16 := F16.binds (ps := p__law_kinds) fun _ _ _ _ _ _ us hl => match us, hl with | [_, _], _ => rfl
  have H__law_kinds : ∀ k, 4 ≤ k → Kn ⟨l.prog, w, K, mg, tabT K⟩ base k "_law_kinds" (sp1 ⟨l.prog, w, K, mg, tabT K⟩ 2 0 F__law_kinds) := fun k hk => kn_of X G (ok__law_kinds (k := 3) B (H__law_grip 3 (by decide)) (H__law_ways 3 (by decide)) F16) a16 k16 b16 hk
  have F17 := fun_mk (st := s__law_cells) l17 c17 k17
  have b17 := F17.binds (ps := p__law_cells) fun _ _ _ _ _ _ us hl => match us, hl with | [_, _, _, _], _ => rfl
  have H__law_cells : ∀ k, 2 ≤ k → Kn ⟨l.prog, w, K, mg, tabT K⟩ base k "_law_cells" (sp1 ⟨l.prog, w, K, mg, tabT K⟩ 4 0 F__law_cells) := fun k hk => kn_of X G (ok__law_cells (k := 1) B (H__law_grip 1 (by decide)) F17) a17 k17 b17 hk
  have F18 := fun_mk (st := s__law_road) l18 c18 k18
  have b18 := F18.binds (ps := p__law_road) fun _ _ _ _ _ _ us hl => match us, hl with | [_, _], _ => rfl
  have H__law_road : ∀ k, 5 ≤ k → Kn ⟨l.prog, w, K, mg, tabT K⟩ base k "_law_road" (sp1 ⟨l.prog, w, K, mg, tabT K⟩ 2 0 F__law_road) := fun k hk => kn_of X G (ok__law_road (k := 4) B (H__law_kinds 4 (by decide)) (H__law_cells 4 (by decide)) F18) a18 k18 b18 hk
  have F19 := fun_mk (st := s__law_int) l19 c19 k19
  have b19 := F19.binds (ps := p__law_int) fun _ _ _ _ _ _ us hl => match us, hl with | [_, _, _], _ => rfl
  have H__law_int : ∀ k, 1 ≤ k → Kn ⟨l.prog, w, K, mg, tabT K⟩ base k "_law_int" (sp0 ⟨l.prog, w, K, mg, tabT K⟩ 3 F__law_int) := fun k hk => kn_of X G (ok__law_int (k := 0) B  F19) a19 k19 b19 hk
  have F20 := fun_mk (st := s__law_are_kinds) l20 c20 k20
  have b20 := F20.binds (ps := p__law_are_kinds) fun _ _ _ _ _ _ us hl => match us, hl with | [_], _ => rfl
  have H__law_are_kinds : ∀ k, 1 ≤ k → Kn ⟨l.prog, w, K, mg, tabT K⟩ base k "_law_are_kinds" (sp0 ⟨l.prog, w, K, mg, tabT K⟩ 1 F__law_are_kinds) := fun k hk => kn_of X G (ok__law_are_kinds (k := 0) B  F20) a20 k20 b20 hk
  have F21 := fun_mk (st := s__law_is_road) l21 c21 k21
  have b21 := F21.binds (ps := p__law_is_road) fun _ _ _ _ _ _ us hl => match us, hl with | [_], _ => rfl
  have H__law_is_road : ∀ k, 2 ≤ k → Kn ⟨l.prog, w, K, mg, tabT K⟩ base k "_law_is_road" (sp0 ⟨l.prog, w, K, mg, tabT K⟩ 1 F__law_is_road) := fun k hk => kn_of X G (ok__law_is_road (k := 1) B (H__law_are_kinds 1 (by decide)) (H__law_int 1 (by decide)) F21) a21 k21 b21 hk
  have F22 := fun_mk (st := s__law_odd) l22 c22 k22
  have b22 := F22.binds (ps := p__law_odd) fun _ _ _ _ _ _ us hl => match us, hl with | [_], _ => rfl
  have H__law_odd : ∀ k, 3 ≤ k → Kn ⟨l.prog, w, K, mg, tabT K⟩ base k "_law_odd" (sp1 ⟨l.prog, w, K, mg, tabT K⟩ 1 0 F__law_odd) := fun k hk => kn_of X G (ok__law_odd (k := 2) B (H__law_pick 2 (by decide)) F22) a22 k22 b22 hk
  have F23 := fun_mk (st := s__law_bent) l23 c23 k23
  have b23 := F23.binds (ps := p__law_bent) fun _ _ _ _ _ _ us hl => match us, hl with | [_, _], _ => rfl
  have H__law_bent : ∀ k, 27 ≤ k → Kn ⟨l.prog, w, K, mg, tabT K⟩ base k "_law_bent" (sp1 ⟨l.prog, w, K, mg, tabT K⟩ 2 0 F__law_bent) := fun k hk => (kr__law_bent (k := 3) B (H__law_grip 3 (by decide)) (H__law_pick 3 (by decide)) (H__law_odd 3 (by decide)) F23 (PySem.W.mg_of X G a23) k23 b23 24).mono hk
  have F24 := fun_mk (st := s__law_word) l24 c24 k24
  have b24 := F24.binds (ps := p__law_word) fun _ _ _ _ _ _ us hl => match us, hl with | [_], _ => rfl
  have W__law_word := w__law_word (T := tabT K) B F24 (PySem.W.mg_of X G a24) b24
  have F25 := fun_mk (st := s__law_right) l25 c25 k25
  have b25 := F25.binds (ps := p__law_right) fun _ _ _ _ _ _ us hl => match us, hl with | [_], _ => rfl
  have H__law_right : ∀ k, 9 ≤ k → Kn ⟨l.prog, w, K, mg, tabT K⟩ base k "_law_right" (sp0 ⟨l.prog, w, K, mg, tabT K⟩ 1 F__law_right) := fun k hk => kn_of X G (ok__law_right (k := 6) B (H_is_road 6 (by decide)) (H__law_is_road 6 (by decide)) (H_cells 6 (by decide)) W__law_word lc25 l25 c25) a25 k25 b25 hk
  have F26 := fun_mk (st := s_law) l26 c26 k26
  exact law_impT (ok_law (k := 27) B (H__law_sack 27 (by decide)) (H__law_road 27 (by decide)) (H__law_right 27 (by decide)) (H__law_bent 27 (by decide)) (H__law_odd 27 (by decide)) (H_cells 27 (by decide)) W__law_word lc26 l26 c26) law_true2
end Q
open PySem PySem.W PyProof.Rows
set_option maxHeartbeats 0 in
theorem PySem.Challenge.cw_stoneroads_k01_roads_and_cells_known_holds : PySem.Challenge.rw_stoneroads_k01_roads_and_cells_known.Holds := by
  w_on; o_law; k_head; (case hw => w_witness2)
  k_fill
  refine Mir.walk_mir (l := PySem.Challenge.rw_stoneroads_k01_roads_and_cells_known) (n := 63) (k := 30) (x := "script") (CX := fun w => L2.CX PySem.Challenge.rw_stoneroads_k01_roads_and_cells_known.prog w) rfl (by decide) rfl ⟨rfl, by decide, by decide⟩ (fun w h Y => PySem.W.km_in_of Y) ?F (fun _ _ _ _ _ h => Mir.cx_none h)
  case F =>
    intro w mg fa h KX G hmg HT
    obtain ⟨_, _, _, TT⟩ := HT
    refine' Q.all_mk KX G hmg ?a0 ?l0 ?c0 ?k0 ?a1 ?l1 ?c1 ?k1 ?a2 ?l2 ?c2 ?k2 ?a3 ?l3 ?c3 ?k3 ?a4 ?l4 ?c4 ?k4 ?a5 ?l5 ?c5 ?k5 ?a6 ?l6 ?c6 ?k6 ?a7 ?l7 ?c7 ?k7 ?a8 ?l8 ?c8 ?k8 ?a9 ?l9 ?c9 ?k9 ?a10 ?l10 ?c10 ?k10 ?a11 ?l11 ?c11 ?k11 ?a12 ?l12 ?c12 ?k12 ?a13 ?l13 ?c13 ?k13 ?a14 ?l14 ?c14 ?k14 ?a15 ?l15 ?c15 ?k15 ?a16 ?l16 ?c16 ?k16 ?a17 ?l17 ?c17 ?k17 ?a18 ?l18 ?c18 ?k18 ?a19 ?l19 ?c19 ?k19 ?a20 ?l20 ?c20 ?k20 ?a21 ?l21 ?c21 ?k21 ?a22 ?l22 ?c22 ?k22 ?a23 ?l23 ?c23 ?k23 ?a24 ?l24 ?c24 ?k24 ?a25 ?l25 ?c25 ?k25 ?a26 ?l26 ?c26 ?k26 ?th25 ?tn25 ?th26 ?tn26 ?ne__law_right_law ?z_all ?z_bool ?z_int ?z_isinstance ?z_len ?z_list ?z_range ?z_set ?z_sorted ?z_str ?z_tuple ?z_zip ?n_MANY ?v_MANY ?n_MOST ?v_MOST ?n_WAYS ?v_WAYS ?g_InvalidNumber ?x_InvalidNumber ?kp_InvalidNumber ?sb_InvalidNumber ?ty_InvalidNumber ?g_InvalidRoad ?x_InvalidRoad ?kp_InvalidRoad ?sb_InvalidRoad ?ty_InvalidRoad ?gd_RoadError ?sbd_RoadError ?tyd_RoadError ?ic_InvalidNumber ?ic_InvalidRoad ?ic_RoadError ?su_InvalidNumber_InvalidNumber ?su_InvalidNumber_InvalidRoad ?su_InvalidNumber_RoadError ?su_InvalidRoad_InvalidNumber ?su_InvalidRoad_InvalidRoad ?su_InvalidRoad_RoadError
    (case a0 => k_is)
    (case l0 => k_is)
    (case c0 => k_is)
    (case k0 => k_is)
    (case a1 => k_is)
    (case l1 => k_is)
    (case c1 => k_is)
    (case k1 => k_is)
    (case a2 => k_is)
    (case l2 => k_is)
    (case c2 => k_is)
    (case k2 => k_is)
    (case a3 => k_is)
    (case l3 => k_is)
    (case c3 => k_is)
    (case k3 => k_is)
    (case a4 => k_is)
    (case l4 => k_is)
    (case c4 => k_is)
    (case k4 => k_is)
    (case a5 => k_is)
    (case l5 => k_is)
    (case c5 => k_is)
    (case k5 => k_is)
    (case a6 => k_is)
    (case l6 => k_is)
    (case c6 => k_is)
    (case k6 => k_is)
    (case a7 => k_is)
    (case l7 => k_is)
    (case c7 => k_is)
    (case k7 => k_is)
    (case a8 => k_is)
    (case l8 => k_is)
    (case c8 => k_is)
    (case k8 => k_is)
    (case a9 => k_is)
    (case l9 => k_is)
    (case c9 => k_is)
    (case k9 => k_is)
    (case a10 => k_is)
    (case l10 => k_is)
    (case c10 => k_is)
    (case k10 => k_is)
    (case a11 => k_is)
    (case l11 => k_is)
    (case c11 => k_is)
    (case k11 => k_is)
    (case a12 => k_is)
    (case l12 => k_is)
    (case c12 => k_is)
    (case k12 => k_is)
    (case a13 => k_is)
    (case l13 => k_is)
    (case c13 => k_is)
    (case k13 => k_is)
    (case a14 => k_is)
    (case l14 => k_is)
    (case c14 => k_is)
    (case k14 => k_is)
    (case a15 => k_is)
    (case l15 => k_is)
    (case c15 => k_is)
    (case k15 => k_is)
    (case a16 => k_is)
    (case l16 => k_is)
    (case c16 => k_is)
    (case k16 => k_is)
    (case a17 => k_is)
    (case l17 => k_is)
    (case c17 => k_is)
    (case k17 => k_is)
    (case a18 => k_is)
    (case l18 => k_is)
    (case c18 => k_is)
    (case k18 => k_is)
    (case a19 => k_is)
    (case l19 => k_is)
    (case c19 => k_is)
    (case k19 => k_is)
    (case a20 => k_is)
    (case l20 => k_is)
    (case c20 => k_is)
    (case k20 => k_is)
    (case a21 => k_is)
    (case l21 => k_is)
    (case c21 => k_is)
    (case k21 => k_is)
    (case a22 => k_is)
    (case l22 => k_is)
    (case c22 => k_is)
    (case k22 => k_is)
    (case a23 => k_is)
    (case l23 => k_is)
    (case c23 => k_is)
    (case k23 => k_is)
    (case a24 => k_is)
    (case l24 => k_is)
    (case c24 => k_is)
    (case k24 => k_is)
    (case a25 => k_is)
    (case l25 => k_is)
    (case c25 => k_is)
    (case k25 => k_is)
    (case a26 => k_is)
    (case l26 => k_is)
    (case c26 => k_is)
    (case k26 => k_is)
    (case th25 => exact PySem.W.tab_of (x := PySem.Str.ofString "_law_right") TT KX rfl (by kernel_rfl))
    (case tn25 => kernel_rfl)
    (case th26 => exact PySem.W.tab_of (x := PySem.Str.ofString "law") TT KX rfl (by kernel_rfl))
    (case tn26 => kernel_rfl)
    (case ne__law_right_law => exact of_decide_eq_false (by kernel_rfl))
    (case z_all => k_is)
    (case z_bool => k_is)
    (case z_int => k_is)
    (case z_isinstance => k_is)
    (case z_len => k_is)
    (case z_list => k_is)
    (case z_range => k_is)
    (case z_set => k_is)
    (case z_sorted => k_is)
    (case z_str => k_is)
    (case z_tuple => k_is)
    (case z_zip => k_is)
    (case n_MANY => k_is)
    (case v_MANY => exact (.int _ _))
    (case n_MOST => k_is)
    (case v_MOST => exact (.int _ _))
    (case n_WAYS => k_is)
    (case v_WAYS => exact (.tup (by k_is) (by decide) (.cons (.str _ _) (.cons (.str _ _) (.cons (.str _ _) .nil)))))
    (case g_InvalidNumber => k_is)
    (case x_InvalidNumber => k_exc)
    (case kp_InvalidNumber => k_is)
    (case sb_InvalidNumber => k_is)
    (case ty_InvalidNumber => k_is)
    (case g_InvalidRoad => k_is)
    (case x_InvalidRoad => k_exc)
    (case kp_InvalidRoad => k_is)
    (case sb_InvalidRoad => k_is)
    (case ty_InvalidRoad => k_is)
    (case gd_RoadError => k_is)
    (case sbd_RoadError => k_is)
    (case tyd_RoadError => k_is)
    (case ic_InvalidNumber => k_is)
    (case ic_InvalidRoad => k_is)
    (case ic_RoadError => k_is)
    (case su_InvalidNumber_InvalidNumber => k_is)
    (case su_InvalidNumber_InvalidRoad => k_is)
    (case su_InvalidNumber_RoadError => k_is)
    (case su_InvalidRoad_InvalidNumber => k_is)
    (case su_InvalidRoad_InvalidRoad => k_is)
    (case su_InvalidRoad_RoadError => k_is)
