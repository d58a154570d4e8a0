import PyProof.Rows.All
import Wide.All
import OpenK.AllK
import Wide.FinOn
import PyProof.EqAt
import PyProof.EqKinds
import PyProof.TupleCall
import Open.SpecLaws
import HandS.ForMost
import HandS.ForExc
import HandS.TryMany
import HandS.Lambda
import HandS.Zip
import HandS.Conv
import HandS.ExcInit
import KE.KDictKeyed
import KE.KDictPairs
import KE.KDictCopyH
import KE.KDictDisplayH
import HandS.TupAny
import HandS.TupMul
import HandS.TupLe
import HandS.Deep
import HandS.IsInst
import HandS.Flow
import HandS.Wide
import HandS.Strs
import HandS.Text
import KE.GoesZip
import KE.GoesMore
import HandS.RaiseMore
import HandS.MapJoin
import HandS.More
import HandS.Ends
import HandS.EndTab
import KE.KDictZip
import PyProof.ListRange
import HandS.ListItems
import HandS.SetTxt0
import HandS.Set
import PyProof.Rows.SortStr
import PyProof.WalksMore
import PyProof.Rows.SetFrom
import HandS.ExcField
import HandS.ClsMeth
import HandS.Style
import HandS.ExcIs
import HandS.ExcValue
import KE.KExcStr
import KE.KExcIs
import PySem.Challenge.RW_stoneroads_k20_errors_and_their_classes
set_option Elab.async false
set_option linter.all false
set_option maxRecDepth 100000
set_option maxHeartbeats 4000000
/-! Mir1: data, stores, what they are in a heap; outcomes; how outcomes are put together. -/
namespace Mir
open PySem PySem.Spec PyProof.Rows L2

abbrev St := L2.St
/-- data without any object that is changed -/
inductive D where
  | non | bl (b : Bool) | int (i : Int) | str (x : Str) | tup (xs : List D) | lst (xs : List D) | dic (t : Bool) (ks : List NestedKey) (vs : List D) | scr (ns : List Int) | obj (x : Str) (ds : List D)
  deriving Inhabited
/-- what a name holds: data, or a reference to a cell of the store -/
inductive U where
  | d (x : D) | c (i : Nat) | t (us : List (D ⊕ Nat))
  deriving Inhabited
/-- an object that may be changed -/
inductive Cell where
  | lst (xs : List D)
  | dic (t : Bool) (ks : List NestedKey) (vs : List D)
  | ins (C : Str) (fs : List (Str × D))
  deriving Inhabited
abbrev Sto := List Cell
abbrev Env := List (Option U)
/-- an exception: its class, its attributes -/
structure Exn where
  cls : Str
  fs : Option (List (Str × D)) := none
inductive O (α : Type) where
  | ok (a : α) (S : Sto) | ex (e : Exn) (S : Sto) | un

namespace O
@[simp] def bind {α β : Type} (o : O α) (f : α → Sto → O β) : O β := match o with
  | .ok a S => f a S | .ex e S => .ex e S | .un => .un
end O
abbrev ME := Env → Sto → O U
abbrev MT := Env → Sto → O Bool
abbrev MA := Env → Sto → O (List U)
/-- outcomes of statements -/
inductive SO where
  | nx (ρ : Env) (S : Sto) | rt (u : U) (S : Sto) | bk (ρ : Env) (S : Sto) | ct (ρ : Env) (S : Sto) | ex (e : Exn) (ρ : Env) (S : Sto) | un
abbrev MS := Env → Sto → SO

/-- what stays the same through a law -/
structure Gc where
  P : Program
  w : World
  K : PySem.W.Frag
  mg : Str → Option Value
  T : List (Addr × Str)

/-! ### data in a heap; e: the cells' addresses -/
def kN : Key → NestedKey
  | .inl i => .num i
  | .inr x => .text x
mutual
/-- a value as a key -/
inductive RN (G : Gc) (H : Hp) : NestedKey → V → Prop
  | none : RN G H .none .non
  | bl (b : Bool) : RN G H (.num (if b = true then 1 else 0)) (.bl b)
  | num (i : Int) : RN G H (.num i) (.int i)
  | text (x : Str) : RN G H (.text x) (.str x)
  | tup {a : Addr} {xs : List V} {ks : List NestedKey} : SqT G.K H a xs → RNs G H ks xs → RN G H (.tup ks) (.ref a)
inductive RNs (G : Gc) (H : Hp) : List NestedKey → List V → Prop
  | nil : RNs G H [] []
  | cons {k : NestedKey} {v : V} {ks : List NestedKey} {vs : List V} : RN G H k v → RNs G H ks vs → RNs G H (k :: ks) (v :: vs)
end
/-- a dict whose keys are tuples: its keys, where they stand, its values -/
def dicN (P : Program) (w : World) (a : Addr) (xs : List (NestedKey × Addr × V)) : HO := .ext fun h => xs.length ≤ sizeLine ∧ (a == sysModules) = false ∧ ∃ us : List (NestedKey × Addr × Value),
  Paired (fun (p : NestedKey × Addr × V) (q : NestedKey × Addr × Value) => p.1 = q.1 ∧ p.2.1 = q.2.1 ∧ RelV p.2.2 q.2.2) xs us ∧
    ∃ o es ep, h.get? a = some o ∧ o.ExactDict ∧ o.data = .dict es ep ∧ es.toList = us.map (entryOfKey (nestedKind P w)) ∧ (us.map (·.1)).Nodup
/-- a dict: its keys, its values -/
inductive RD (G : Gc) (H : Hp) (a : Addr) : Bool → List NestedKey → List V → HO → Prop
  | k (ks : List Key) (xs : List V) : ks.length = xs.length → RD G H a false (ks.map kN) xs (.dK (ks.zip xs))
  | n (ts : List (NestedKey × Addr × V)) : (∀ t ∈ ts, RN G H t.1 (.ref t.2.1) ∧ t.1.depth ≤ 8) → RD G H a true (ts.map (·.1)) (ts.map (·.2.2)) (dicN G.P G.w a ts)
/-- the script: a list that nobody changes -/
def Sc (K : PySem.W.Frag) (H : Hp) (a : Addr) (ns : List Int) : Prop :=
  (∃ o, H a = some (.frz o (.lst (ns.map V.int)))) ∨
    ∃ (o : Obj) (its : Array Value) (n : Nat), K.lookup a = some o ∧ o.cls = .type "list" ∧ o.dict = none ∧ o.data = .seq its n ∧ its.size ≤ sizeLine ∧ Vals (ns.map V.int) its.toList
theorem Sc.sq {K : PySem.W.Frag} {H : Hp} {a : Addr} {ns : List Int} (h : Sc K H a ns) : SqL K H a (ns.map V.int) := by
  rcases h with h | h
  · exact .inl (.inr h)
  · exact .inr h
/-- at e: an exception of the class at C, its arguments' tuple at t1, no dict -/
def exq (e C t1 : Addr) : HO := .ext fun h => h.get? e = some ({ cls := .ref C, dict := none, data := .fields #[.ref t1, .none, .none, .none, .bool false, .none] } : Obj)
/-- objects that are data: what they are, what they hold -/
inductive OB (G : Gc) (e : List Addr) (H : Hp) : Str → List V → Addr → Prop
  | exc {x : Str} {C a t1 : Addr} {m : Str} : G.mg x = some (.ref C) → H a = some (exq a C t1) → a ∉ e → SqT G.K H t1 [.str m] → OB G e H x [.str m] a
  | exi {x : Str} {C a d : Addr} {fl : Str} {v : V} : G.mg x = some (.ref C) → H a = some (exo a C (some d)) → a ∉ e → H d = some (exd d [(fl, v)]) → d ∉ e → OB G e H x [.str fl, v] a
theorem OB.keep {G : Gc} {e e' : List Addr} {H H' : Hp} (t : ∀ a xs, SqT G.K H a xs → SqT G.K H' a xs) (k : ∀ a (φ : Heap → Prop), H a = some (.ext φ) → a ∉ e → H' a = some (.ext φ) ∧ a ∉ e') {x : Str} {vs : List V} {a : Addr} (h : OB G e H x vs a) : OB G e' H' x vs a := by
  cases h with
  | exc h1 h2 h3 h4 => exact .exc h1 (k _ _ h2 h3).1 (k _ _ h2 h3).2 (t _ _ h4)
  | exi h1 h2 h3 h4 h5 => exact .exi h1 (k _ _ h2 h3).1 (k _ _ h2 h3).2 (k _ _ h4 h5).1 (k _ _ h4 h5).2
mutual
inductive RV (G : Gc) (e : List Addr) (H : Hp) : D → V → Prop
  | non : RV G e H .non .non
  | bl (b : Bool) : RV G e H (.bl b) (.bl b)
  | int (i : Int) : RV G e H (.int i) (.int i)
  | str (x : Str) : RV G e H (.str x) (.str x)
  | tup {a : Addr} {xs : List V} {ds : List D} : SqT G.K H a xs → RVs G e H ds xs → RV G e H (.tup ds) (.ref a)
  | lst {a : Addr} {xs : List V} {ds : List D} : H a = some (.lst xs) → a ∉ e → RVs G e H ds xs → RV G e H (.lst ds) (.ref a)
  | scr {a : Addr} {ns : List Int} : Sc G.K H a ns → RV G e H (.scr ns) (.ref a)
  | dic {a : Addr} {o : HO} {t : Bool} {ks : List NestedKey} {xs : List V} {ds : List D} : H a = some o → a ∉ e → RD G H a t ks xs o → RVs G e H ds xs → RV G e H (.dic t ks ds) (.ref a)
  | obj {x : Str} {a : Addr} {ds : List D} {vs : List V} : OB G e H x vs a → RVs G e H ds vs → RV G e H (.obj x ds) (.ref a)
inductive RVs (G : Gc) (e : List Addr) (H : Hp) : List D → List V → Prop
  | nil : RVs G e H [] []
  | cons {d : D} {v : V} {ds : List D} {vs : List V} : RV G e H d v → RVs G e H ds vs → RVs G e H (d :: ds) (v :: vs)
end
/-- the same, the outermost object may be a cell -/
inductive RT (G : Gc) (e : List Addr) (H : Hp) : D → V → Prop
  | of {d : D} {v : V} : RV G e H d v → RT G e H d v
  | lst {a : Addr} {xs : List V} {ds : List D} : H a = some (.lst xs) → RVs G e H ds xs → RT G e H (.lst ds) (.ref a)
  | dic {a : Addr} {o : HO} {t : Bool} {ks : List NestedKey} {xs : List V} {ds : List D} : H a = some o → RD G H a t ks xs o → RVs G e H ds xs → RT G e H (.dic t ks ds) (.ref a)
/-- the items of a tuple that is handed back: data, cells -/
inductive RW (G : Gc) (e m : List Addr) (H : Hp) : List (D ⊕ Nat) → List V → Prop
  | nil : RW G e m H [] []
  | d {x : D} {v : V} {ds : List (D ⊕ Nat)} {vs : List V} : RV G e H x v → RW G e m H ds vs → RW G e m H (.inl x :: ds) (v :: vs)
  | c {i : Nat} {a : Addr} {ds : List (D ⊕ Nat)} {vs : List V} : m[i]? = some a → RW G e m H ds vs → RW G e m H (.inr i :: ds) (.ref a :: vs)
/-- what a name holds -/
inductive RU (G : Gc) (e m : List Addr) (H : Hp) : U → V → Prop
  | d {x : D} {v : V} : RV G e H x v → RU G e m H (.d x) v
  | c {i : Nat} {a : Addr} : m[i]? = some a → RU G e m H (.c i) (.ref a)
  | t {a : Addr} {us : List (D ⊕ Nat)} {xs : List V} : SqT G.K H a xs → RW G e m H us xs → RU G e m H (.t us) (.ref a)
inductive RUs (G : Gc) (e m : List Addr) (H : Hp) : List U → List V → Prop
  | nil : RUs G e m H [] []
  | cons {d : U} {v : V} {ds : List U} {vs : List V} : RU G e m H d v → RUs G e m H ds vs → RUs G e m H (d :: ds) (v :: vs)
/-- the fields of an instance -/
inductive RF (G : Gc) (e : List Addr) (H : Hp) : List (Str × D) → List (Str × V) → Prop
  | nil : RF G e H [] []
  | cons {f : Str} {d : D} {v : V} {ds : List (Str × D)} {vs : List (Str × V)} : RV G e H d v → RF G e H ds vs → RF G e H ((f, d) :: ds) ((f, v) :: vs)
inductive RC (G : Gc) (e : List Addr) (H : Hp) (a : Addr) : Cell → HO → Prop
  | lst {xs : List V} {ds : List D} : RVs G e H ds xs → RC G e H a (.lst ds) (.lst xs)
  | dic {o : HO} {t : Bool} {ks : List NestedKey} {xs : List V} {ds : List D} : RD G H a t ks xs o → RVs G e H ds xs → RC G e H a (.dic t ks ds) o
  | ins {x : Str} {C dx : Addr} {fs : List (Str × D)} {gs : List (Str × V)} : G.mg x = some (.ref C) → H dx = some (.own a) → RF G e H fs gs → RC G e H a (.ins x fs) (.ins C dx gs)
/-- a store in a heap -/
structure RS (G : Gc) (e m : List Addr) (H : Hp) (S : Sto) : Prop where
  len : m.length = S.length
  nd : m.Nodup
  ins : ∀ b ∈ m, b ∈ e
  at' : ∀ (i : Nat) (a : Addr) (c : Cell), m[i]? = some a → S[i]? = some c → ∃ o, H a = some o ∧ RC G e H a c o
inductive RE (G : Gc) (e m : List Addr) (H : Hp) : Env → St → Prop
  | nil : RE G e m H [] []
  | em {o : Option V} {ρ : Env} {σ : St} : RE G e m H ρ σ → RE G e m H (none :: ρ) (o :: σ)
  | cns {u : U} {v : V} {ρ : Env} {σ : St} : RU G e m H u v → RE G e m H ρ σ → RE G e m H (some u :: ρ) (some v :: σ)
/-- there is an object that is no table of code objects -/
def Nt (H : Hp) (b : Addr) : Prop := ∃ o, H b = some o ∧ ∀ ps, o ≠ .tbl ps
structure Rp (G : Gc) (x m : List Addr) (H : Hp) (ρ : Env) (S : Sto) (σ : St) : Prop where
  env : RE G (x ++ m) m H ρ σ
  sto : RS G (x ++ m) m H S
  ex : ∀ b ∈ x, Nt H b
  tab : LamX.Tabs G.T H

/-- from one heap to another: but for the cells all stays -/
structure Ext (G : Gc) (m : List Addr) (H : Hp) (m' : List Addr) (H' : Hp) : Prop where
  keep : ∀ b o, H b = some o → b ∉ m → (∀ ps, o ≠ .tbl ps) → H' b = some o
  tups : ∀ b xs, H b = some (.tup xs) → H' b = some (.tup xs)
  frzs : ∀ b o u, H b = some (.frz o u) → H' b = some (.frz o u)
  owns : ∀ b a, H b = some (.own a) → H' b = some (.own a)
  live : ∀ b, Nt H b → Nt H' b
  pre : ∃ new, m' = m ++ new ∧ ∀ b ∈ new, ¬ Nt H b
  tab : LamX.Tabs G.T H → LamX.Tabs G.T H'

theorem Ext.refl {G : Gc} {m : List Addr} {H : Hp} : Ext G m H m H :=
  ⟨fun _ _ h _ _ => h, fun _ _ h => h, fun _ _ _ h => h, fun _ _ h => h, fun _ h => h, ⟨[], by simp, fun _ h => by cases h⟩, fun h => h⟩
theorem Ext.trans {G : Gc} {m m1 m2 : List Addr} {H H1 H2 : Hp} (a : Ext G m H m1 H1) (b : Ext G m1 H1 m2 H2) : Ext G m H m2 H2 := by
  obtain ⟨n1, e1, f1⟩ := a.pre
  obtain ⟨n2, e2, f2⟩ := b.pre
  refine ⟨fun c o h hc ht => b.keep c o (a.keep c o h hc ht) ?_ ht, fun c xs h => b.tups c xs (a.tups c xs h), fun c o u h => b.frzs c o u (a.frzs c o u h), fun c x h => b.owns c x (a.owns c x h), fun c h => b.live c (a.live c h), ⟨n1 ++ n2, by rw [e2, e1, List.append_assoc], fun c hc => ?_⟩, fun h => b.tab (a.tab h)⟩
  · rw [e1]
    intro hm
    rcases List.mem_append.mp hm with hm | hm
    · exact hc hm
    · exact f1 c hm ⟨o, h, ht⟩
  · rcases List.mem_append.mp hc with hc | hc
    · exact f1 c hc
    · exact fun q => f2 c hc (a.live c q)

/-! ### what stays -/
section
variable {G : Gc} {e e' x m m' : List Addr} {H H' : Hp}
/-- data stay where all that is no cell stays -/
structure Keep (G : Gc) (e : List Addr) (H : Hp) (e' : List Addr) (H' : Hp) : Prop where
  tup : ∀ a xs, SqT G.K H a xs → SqT G.K H' a xs
  lst : ∀ a ns, Sc G.K H a ns → Sc G.K H' a ns
  lsk : ∀ a xs, H a = some (.lst xs) → a ∉ e → H' a = some (.lst xs) ∧ a ∉ e'
  dic : ∀ a o t ks xs, H a = some o → a ∉ e → RD G H a t ks xs o → H' a = some o ∧ a ∉ e' ∧ RD G H' a t ks xs o
  obj : ∀ a (φ : Heap → Prop), H a = some (.ext φ) → a ∉ e → H' a = some (.ext φ) ∧ a ∉ e'
mutual
theorem RN.ext (k : ∀ a xs, SqT G.K H a xs → SqT G.K H' a xs) : ∀ {d : NestedKey} {v : V}, RN G H d v → RN G H' d v
  | _, _, .none => .none
  | _, _, .bl b => .bl b
  | _, _, .num i => .num i
  | _, _, .text x => .text x
  | _, _, .tup h r => .tup (k _ _ h) (RNs.ext k r)
theorem RNs.ext (k : ∀ a xs, SqT G.K H a xs → SqT G.K H' a xs) : ∀ {ds : List NestedKey} {vs : List V}, RNs G H ds vs → RNs G H' ds vs
  | _, _, .nil => .nil
  | _, _, .cons r t => .cons (RN.ext k r) (RNs.ext k t)
end
theorem RD.ext (k : ∀ a xs, SqT G.K H a xs → SqT G.K H' a xs) {a : Addr} {t : Bool} {ks : List NestedKey} {xs : List V} {o : HO} (r : RD G H a t ks xs o) : RD G H' a t ks xs o := by
  cases r with
  | k kk xs h => exact .k kk xs h
  | n ts h => exact .n ts fun t ht => ⟨(h t ht).1.ext k, (h t ht).2⟩
mutual
theorem RV.keep (k : Keep G e H e' H') : ∀ {d : D} {v : V}, RV G e H d v → RV G e' H' d v
  | _, _, .non => .non
  | _, _, .bl b => .bl b
  | _, _, .int i => .int i
  | _, _, .str x => .str x
  | _, _, .tup h r => .tup (k.tup _ _ h) (RVs.keep k r)
  | _, _, .lst h n r => .lst (k.lsk _ _ h n).1 (k.lsk _ _ h n).2 (RVs.keep k r)
  | _, _, .scr h => .scr (k.lst _ _ h)
  | _, _, .dic h n rd r => .dic (k.dic _ _ _ _ _ h n rd).1 (k.dic _ _ _ _ _ h n rd).2.1 (k.dic _ _ _ _ _ h n rd).2.2 (RVs.keep k r)
  | _, _, .obj h r => .obj (h.keep k.tup k.obj) (RVs.keep k r)
theorem RVs.keep (k : Keep G e H e' H') : ∀ {ds : List D} {vs : List V}, RVs G e H ds vs → RVs G e' H' ds vs
  | _, _, .nil => .nil
  | _, _, .cons r t => .cons (RV.keep k r) (RVs.keep k t)
end
theorem Rd.ext {a : Addr} {u : HO} (E : Ext G m H m' H') (h : Rd H a u) (hm : a ∉ m) (ht : ∀ ps, u ≠ .tbl ps) : Rd H' a u := by
  rcases h with h | ⟨o, h⟩
  · exact .inl (E.keep _ _ h hm ht)
  · exact .inr ⟨o, E.frzs _ _ _ h⟩
theorem rd_some {a : Addr} {u : HO} (h : Rd H a u) : ∃ o, H a = some o := by
  rcases h with h | ⟨o, h⟩ <;> exact ⟨_, h⟩
theorem RD.notbl {a : Addr} {t : Bool} {ks : List NestedKey} {xs : List V} {o : HO} (h : RD G H a t ks xs o) : ∀ ps, o ≠ .tbl ps := by
  cases h <;> intro ps q <;> cases q
theorem SqT.ext {a : Addr} {xs : List V} (E : Ext G m H m' H') (h : SqT G.K H a xs) : SqT G.K H' a xs := by
  rcases h with (h | ⟨o, h⟩) | h
  · exact .inl (.inl (E.tups _ _ h))
  · exact .inl (.inr ⟨o, E.frzs _ _ _ h⟩)
  · exact .inr h
theorem Ext.notin {a : Addr} {o : HO} (E : Ext G m H m' H') (h : H a = some o) (ht : ∀ ps, o ≠ .tbl ps) (hm : a ∉ x ++ m) : a ∉ x ++ m' := by
  obtain ⟨n, e1, f⟩ := E.pre
  rw [e1]
  intro q
  rcases List.mem_append.mp q with q | q
  · exact hm (List.mem_append_left _ q)
  · rcases List.mem_append.mp q with q | q
    · exact hm (List.mem_append_right _ q)
    · exact f a q ⟨o, h, ht⟩
theorem Sc.ext {a : Addr} {ns : List Int} (E : Ext G m H m' H') (h : Sc G.K H a ns) : Sc G.K H' a ns := by
  rcases h with ⟨o, h⟩ | h
  · exact .inl ⟨o, E.frzs _ _ _ h⟩
  · exact .inr h
theorem Ext.kp (E : Ext G m H m' H') : Keep G (x ++ m) H (x ++ m') H' where
  tup := fun a xs h => SqT.ext E h
  lst := fun a ns h => Sc.ext E h
  lsk := fun a xs h n => ⟨E.keep _ _ h (fun z => n (List.mem_append_right _ z)) (fun ps z => by cases z), E.notin h (fun ps z => by cases z) n⟩
  dic := fun a o t ks xs h n r => by
    exact ⟨E.keep _ _ h (fun z => n (List.mem_append_right _ z)) r.notbl, E.notin h r.notbl n, r.ext fun a xs h => SqT.ext E h⟩
  obj := fun a φ h n => ⟨E.keep _ _ h (fun z => n (List.mem_append_right _ z)) (fun ps z => by cases z), E.notin h (fun ps z => by cases z) n⟩
theorem RW.ext (E : Ext G m H m' H') : ∀ {us : List (D ⊕ Nat)} {vs : List V}, RW G (x ++ m) m H us vs → RW G (x ++ m') m' H' us vs
  | _, _, .nil => .nil
  | _, _, .d r t => .d (r.keep E.kp) (RW.ext E t)
  | _, _, .c h t => by
    obtain ⟨n, e1, f⟩ := E.pre
    exact .c (by rw [e1, List.getElem?_append_left (List.getElem?_eq_some_iff.mp h).1]; exact h) (RW.ext E t)
theorem RU.ext (E : Ext G m H m' H') {u : U} {v : V} (r : RU G (x ++ m) m H u v) : RU G (x ++ m') m' H' u v := by
  cases r with
  | d r => exact .d (r.keep E.kp)
  | c h =>
    obtain ⟨n, e1, f⟩ := E.pre
    exact .c (by rw [e1, List.getElem?_append_left (List.getElem?_eq_some_iff.mp h).1]; exact h)
  | t h r => exact .t (E.kp.tup (e := x ++ m) (e' := x ++ m') _ _ h) (r.ext E)
theorem RUs.ext (E : Ext G m H m' H') : ∀ {us : List U} {vs : List V}, RUs G (x ++ m) m H us vs → RUs G (x ++ m') m' H' us vs
  | _, _, .nil => .nil
  | _, _, .cons r t => .cons (RU.ext E r) (RUs.ext E t)
theorem RE.ext (E : Ext G m H m' H') : ∀ {ρ : Env} {σ : St}, RE G (x ++ m) m H ρ σ → RE G (x ++ m') m' H' ρ σ
  | _, _, .nil => .nil
  | _, _, .em t => .em (RE.ext E t)
  | _, _, .cns r t => .cns (RU.ext E r) (RE.ext E t)
theorem Rp.ext {ρ : Env} {S S' : Sto} {σ : St} (p : Rp G x m H ρ S σ) (E : Ext G m H m' H') (r : RS G (x ++ m') m' H' S') : Rp G x m' H' ρ S' σ :=
  ⟨p.env.ext E, r, fun b hb => E.live b (p.ex b hb), E.tab p.tab⟩
end

/-! ### what is wanted behind an outcome -/
section
variable {G : Gc} {W : WX} {x m m1 : List Addr} {σ : St} {H H1 : Hp}
/-- an exception: its class, its attributes -/
def RX (G : Gc) (e : List Addr) (H : Hp) (ex : Exn) (cls : Value) (d : Option Addr) : Prop :=
  ∃ C, cls = .ref C ∧ G.mg ex.cls = some (.ref C) ∧ match ex.fs with
    | none => True
    | some fs => ∃ a gs, d = some a ∧ H a = some (.xd gs) ∧ RF G e H fs gs
def Post {α : Type} (G : Gc) (W : WX) (x m : List Addr) (σ : St) (H : Hp) (o : O α) (Q : α → Sto → List Addr → Hp → Prop) : Prop := match o with
  | .ok a S' => ∀ m' H', Ext G m H m' H' → RS G (x ++ m') m' H' S' → Q a S' m' H'
  | .ex e S' => ∀ m' H' cls d, Ext G m H m' H' → RS G (x ++ m') m' H' S' → RX G (x ++ m') H' e cls d → W cls d σ H'
  | .un => False
theorem Post.shift {α : Type} {o : O α} {Q : α → Sto → List Addr → Hp → Prop} (E : Ext G m H m1 H1) (h : Post G W x m σ H o Q) : Post G W x m1 σ H1 o Q := by
  cases o with
  | ok a S => exact fun m' H' e r => h m' H' (E.trans e) r
  | ex e S => exact fun m' H' cls d e r rx => h m' H' cls d (E.trans e) r rx
  | un => exact h
theorem Post.bind {α β : Type} {o : O α} {f : α → Sto → O β} {Q : β → Sto → List Addr → Hp → Prop} (h : Post G W x m σ H (o.bind f) Q) :
    Post G W x m σ H o fun a S1 m1 H1 => Ext G m H m1 H1 ∧ RS G (x ++ m1) m1 H1 S1 ∧ Post G W x m1 σ H1 (f a S1) Q := by
  cases o with
  | ok a S => exact fun m' H' e r => ⟨e, r, Post.shift e h⟩
  | ex e S => exact h
  | un => exact h
theorem Post.mono {α : Type} {o : O α} {Q Q' : α → Sto → List Addr → Hp → Prop} (h : Post G W x m σ H o Q) (q : ∀ a S m' H', Ext G m H m' H' → RS G (x ++ m') m' H' S → Q a S m' H' → Q' a S m' H') : Post G W x m σ H o Q' := by
  cases o with
  | ok a S => exact fun m' H' e r => q _ _ _ _ e r (h m' H' e r)
  | ex e S => exact h
  | un => exact h
end
/-- the readings -/
def tE (G : Gc) (W : WX) (f : ME) : TE := fun σ H Q => ∃ x m ρ S, Rp G x m H ρ S σ ∧ Post G W x m σ H (f ρ S) fun u _ m' H' => ∀ v, RU G (x ++ m') m' H' u v → Q v H'
def tT (G : Gc) (W : WX) (f : MT) : TT := fun σ H Q => ∃ x m ρ S, Rp G x m H ρ S σ ∧ Post G W x m σ H (f ρ S) fun b _ _ H' => Q b H'
def tA (G : Gc) (W : WX) (f : MA) : TA := fun σ H Q => ∃ x m ρ S, Rp G x m H ρ S σ ∧ Post G W x m σ H (f ρ S) fun us _ m' H' => ∀ vs, RUs G (x ++ m') m' H' us vs → Q vs H'
/-- behind a statement -/
def PostS (G : Gc) (W : WX) (x m : List Addr) (H : Hp) (o : SO) (Dn : Ends) : Prop := match o with
  | .nx ρ' S' => ∀ m' H' σ', Ext G m H m' H' → Rp G x m' H' ρ' S' σ' → Dn.nx σ' H'
  | .rt u S' => ∀ m' H' v, Ext G m H m' H' → RS G (x ++ m') m' H' S' → RU G (x ++ m') m' H' u v → Dn.rt v H'
  | .bk ρ' S' => ∀ m' H' σ', Ext G m H m' H' → Rp G x m' H' ρ' S' σ' → Dn.bk σ' H'
  | .ct ρ' S' => ∀ m' H' σ', Ext G m H m' H' → Rp G x m' H' ρ' S' σ' → Dn.ct σ' H'
  | .ex e ρ' S' => ∀ m' H' σ' cls d, Ext G m H m' H' → Rp G x m' H' ρ' S' σ' → RX G (x ++ m') H' e cls d → W cls d σ' H'
  | .un => False
def tS (G : Gc) (W : WX) (f : MS) : TS := fun Dn σ H => ∃ x m ρ S, Rp G x m H ρ S σ ∧ PostS G W x m H (f ρ S) Dn
theorem PostS.shift {G : Gc} {W : WX} {x m m1 : List Addr} {H H1 : Hp} {o : SO} {Dn : Ends} (E : Ext G m H m1 H1) (h : PostS G W x m H o Dn) : PostS G W x m1 H1 o Dn := by
  cases o with
  | nx ρ S => exact fun m' H' σ' e p => h m' H' σ' (E.trans e) p
  | rt u S => exact fun m' H' v e p r => h m' H' v (E.trans e) p r
  | bk ρ S => exact fun m' H' σ' e p => h m' H' σ' (E.trans e) p
  | ct ρ S => exact fun m' H' σ' e p => h m' H' σ' (E.trans e) p
  | ex e ρ S => exact fun m' H' σ' cls d E' p r => h m' H' σ' cls d (E.trans E') p r
  | un => exact h

/-! ### a weaker reading -/
theorem pe_mono {X : Cx} {e : Expr} {t t' : TE} (h : PE X e t) (q : ∀ σ H Q, t' σ H Q → t σ H Q) : PE X e t' := ⟨fun pins s σ H Q I w => h.run pins s σ H Q I (q σ H Q w)⟩
theorem pt_mono {X : Cx} {e : Expr} {t t' : TT} (h : PT X e t) (q : ∀ σ H Q, t' σ H Q → t σ H Q) : PT X e t' := ⟨fun pins s σ H Q I w => h.run pins s σ H Q I (q σ H Q w)⟩
theorem pa_mono {X : Cx} {e : List Expr} {t t' : TA} (h : PA X e t) (q : ∀ σ H Q, t' σ H Q → t σ H Q) : PA X e t' := ⟨fun pos pins s σ H Q I w => h.run pos pins s σ H Q I (q σ H Q w)⟩
theorem ps_mono {X : Cx} {e : Stmt} {t t' : TS} (h : PS X e t) (q : ∀ Dn σ H, t' Dn σ H → t Dn σ H) : PS X e t' := ⟨fun pins s σ H Dn I w => h.run pins s σ H Dn I (q Dn σ H w)⟩
theorem pss_mono {X : Cx} {e : List Stmt} {t t' : TS} (h : PSs X e t) (q : ∀ Dn σ H, t' Dn σ H → t Dn σ H) : PSs X e t' := ⟨fun pins s σ H Dn I w => h.run pins s σ H Dn I (q Dn σ H w)⟩
end Mir

/-! Mir2: expressions: names, constants, displays, operators, comparisons, truth. -/
namespace Mir
open PySem PySem.Spec PyProof.Rows L2

abbrev gOf (X : Cx) (T : List (Addr × Str)) : Gc := ⟨X.prog, X.w, X.K, X.mg, T⟩

/-! ### reading cells -/
def rd (S : Sto) : U → Option D
  | .d x => some x
  | .c i => match S[i]? with
    | some (.lst xs) => some (.lst xs)
    | some (.dic t ks vs) => some (.dic t ks vs)
    | _ => none
  | .t _ => none
def rds (S : Sto) : List U → Option (List D)
  | [] => some []
  | u :: us => match rd S u, rds S us with
    | some d, some ds => some (d :: ds)
    | _, _ => none
def pures : List U → Option (List D)
  | [] => some []
  | .d x :: us => match pures us with
    | some ds => some (x :: ds)
    | none => none
  | .c _ :: _ => none
  | .t _ :: _ => none
def purs : U → Option D
  | .d x => some x
  | .c _ => none
  | .t _ => none
inductive RTs (G : Gc) (e : List Addr) (H : Hp) : List D → List V → Prop
  | nil : RTs G e H [] []
  | cons {d : D} {v : V} {ds : List D} {vs : List V} : RT G e H d v → RTs G e H ds vs → RTs G e H (d :: ds) (v :: vs)
section
variable {G : Gc} {e m : List Addr} {H : Hp} {S : Sto}
theorem RU.rt {u : U} {v : V} {d : D} (r : RU G e m H u v) (s : RS G e m H S) (h : rd S u = some d) : RT G e H d v := by
  cases r with
  | d r => simp only [rd, Option.some.injEq] at h; subst h; exact .of r
  | @c i a ha =>
    unfold rd at h
    split at h
    · rename_i x hx
      cases hx
    · rename_i j hx
      cases hx
      split at h
      · rename_i xs hs
        cases h
        obtain ⟨o, h1, h2⟩ := s.at' i a _ ha hs
        cases h2 with
        | lst q => exact .lst h1 q
      · rename_i t ks vs hs
        cases h
        obtain ⟨o, h1, h2⟩ := s.at' i a _ ha hs
        cases h2 with
        | dic q1 q2 => exact .dic h1 q1 q2
      · cases h
    · cases h
  | t _ _ => cases h
theorem RUs.rts (s : RS G e m H S) : ∀ {us : List U} {vs : List V} {ds : List D}, RUs G e m H us vs → rds S us = some ds → RTs G e H ds vs
  | _, _, _, .nil, h => by simp only [rds, Option.some.injEq] at h; subst h; exact .nil
  | _, _, _, .cons r t, h => by
    unfold rds at h
    split at h
    · rename_i d ds h1 h2
      cases h
      exact .cons (r.rt s h1) (RUs.rts s t h2)
    · cases h
theorem RUs.pure : ∀ {us : List U} {vs : List V} {ds : List D}, RUs G e m H us vs → pures us = some ds → RVs G e H ds vs
  | _, _, _, .nil, h => by simp only [pures, Option.some.injEq] at h; subst h; exact .nil
  | _, _, _, .cons (.d r) t, h => by
    unfold pures at h
    split at h
    · rename_i ds h1
      cases h
      exact .cons r (RUs.pure t h1)
    · cases h
  | _, _, _, .cons (.c _) t, h => by simp [pures] at h
  | _, _, _, .cons (.t (us := us) _ _) t, h => by simp [pures] at h
theorem RVs.length : ∀ {ds : List D} {vs : List V}, RVs G e H ds vs → ds.length = vs.length
  | _, _, .nil => rfl
  | _, _, .cons _ t => by simp [RVs.length t]
theorem RUs.length : ∀ {ds : List U} {vs : List V}, RUs G e m H ds vs → ds.length = vs.length
  | _, _, .nil => rfl
  | _, _, .cons _ t => by simp [RUs.length t]
theorem pures_len : ∀ {us : List U} {ds : List D}, pures us = some ds → ds.length = us.length
  | [], _, h => by simp [pures] at h; subst h; rfl
  | .d x :: us, _, h => by
    unfold pures at h
    split at h
    · rename_i ds h1
      cases h
      simp [pures_len h1]
    · cases h
  | .c _ :: us, _, h => by simp [pures] at h
  | .t _ :: us, _, h => by simp [pures] at h
end
section
variable {G : Gc} {e m : List Addr} {H : Hp}
theorem RVs.get : ∀ {ds : List D} {vs : List V} {i : Nat} {d : D}, RVs G e H ds vs → ds[i]? = some d → ∃ v, vs[i]? = some v ∧ RV G e H d v
  | _, _, _, _, .nil, h => by simp at h
  | _, _, 0, _, .cons r _, h => by simp at h; subst h; exact ⟨_, rfl, r⟩
  | _, _, i + 1, _, .cons _ t, h => by
    obtain ⟨v, h1, h2⟩ := RVs.get (i := i) t (by simpa using h)
    exact ⟨v, by simpa using h1, h2⟩
theorem RVs.len : ∀ {ds : List D} {vs : List V}, RVs G e H ds vs → ds.length = vs.length
  | _, _, .nil => rfl
  | _, _, .cons _ t => by simp [RVs.len t]
theorem RVs.append : ∀ {ds : List D} {vs : List V} {ds' : List D} {vs' : List V}, RVs G e H ds vs → RVs G e H ds' vs' → RVs G e H (ds ++ ds') (vs ++ vs')
  | _, _, _, _, .nil, r => r
  | _, _, _, _, .cons r t, q => .cons r (RVs.append t q)
theorem RVs.take : ∀ {ds : List D} {vs : List V} (n : Nat), RVs G e H ds vs → RVs G e H (ds.take n) (vs.take n)
  | _, _, 0, _ => .nil
  | _, _, _ + 1, .nil => .nil
  | _, _, n + 1, .cons r t => .cons r (RVs.take n t)
theorem RVs.drop : ∀ {ds : List D} {vs : List V} (n : Nat), RVs G e H ds vs → RVs G e H (ds.drop n) (vs.drop n)
  | _, _, 0, r => r
  | _, _, _ + 1, .nil => .nil
  | _, _, n + 1, .cons _ t => RVs.drop n t
theorem RVs.flat {ds : List D} {vs : List V} (r : RVs G e H ds vs) : ∀ k : Nat, RVs G e H (List.replicate k ds).flatten (List.replicate k vs).flatten
  | 0 => .nil
  | k + 1 => by
    simp only [List.replicate_succ, List.flatten_cons]
    exact r.append (RVs.flat r k)
theorem RVs.set {d : D} {v : V} (r : RV G e H d v) : ∀ {ds : List D} {vs : List V} (i : Nat), RVs G e H ds vs → RVs G e H (ds.set i d) (vs.set i v)
  | _, _, _, .nil => .nil
  | _, _, 0, .cons _ t => .cons r t
  | _, _, i + 1, .cons q t => .cons q (RVs.set r i t)
theorem RE.get : ∀ {ρ : Env} {σ : St} {i : Nat} {u : U}, RE G e m H ρ σ → ρ[i]? = some (some u) → ∃ v, σ[i]? = some (some v) ∧ RU G e m H u v
  | _, _, _, _, .nil, h => by simp at h
  | _, _, 0, _, .em _, h => by simp at h
  | _, _, 0, _, .cns r _, h => by simp at h; subst h; exact ⟨_, rfl, r⟩
  | _, _, i + 1, _, .em t, h => by
    obtain ⟨v, h1, h2⟩ := RE.get (i := i) t (by simpa using h)
    exact ⟨v, by simpa using h1, h2⟩
  | _, _, i + 1, _, .cns _ t, h => by
    obtain ⟨v, h1, h2⟩ := RE.get (i := i) t (by simpa using h)
    exact ⟨v, by simpa using h1, h2⟩
theorem RE.set {u : U} {v : V} (r : RU G e m H u v) : ∀ {ρ : Env} {σ : St} (i : Nat), RE G e m H ρ σ → RE G e m H (ρ.set i (some u)) (σ.set i (some v))
  | _, _, _, .nil => .nil
  | _, _, 0, .em t => .cns r t
  | _, _, 0, .cns _ t => .cns r t
  | _, _, i + 1, .em t => .em (RE.set r i t)
  | _, _, i + 1, .cns q t => .cns q (RE.set r i t)
/-- names that hold nothing of use any more -/
theorem RE.wipe1 : ∀ {ρ : Env} {σ : St} (i : Nat), RE G e m H ρ σ → RE G e m H (ρ.set i none) σ
  | _, _, _, .nil => .nil
  | _, _, 0, .em t => .em t
  | _, _, 0, .cns _ t => .em t
  | _, _, i + 1, .em t => .em (RE.wipe1 i t)
  | _, _, i + 1, .cns q t => .cns q (RE.wipe1 i t)
theorem RV.none_of {d : D} {v : V} (r : RV G e H d v) : decide (v = V.non) = (match d with | .non => true | _ => false) := by
  cases r <;> simp
theorem Rd.nn {a : Addr} {o : HO} {e : List Addr} (h : Rd H a o) : H a ≠ none := by
  rcases h with h | ⟨o', h⟩ <;> rw [h] <;> simp
end

/-! ### new objects -/
section
variable {G : Gc} {x m e : List Addr} {H : Hp} {p : Addr} {o : HO}
theorem Ext.new (h : H p = none) : Ext G m H m (upd H p o) where
  keep := fun b u q _ _ => by rw [upd_ne (ne_of_none q h)]; exact q
  tups := fun b u q => by rw [upd_ne (ne_of_none q h)]; exact q
  frzs := fun b u w q => by rw [upd_ne (ne_of_none q h)]; exact q
  owns := fun b u q => by rw [upd_ne (ne_of_none q h)]; exact q
  live := fun b ⟨u, q, n⟩ => ⟨u, by rw [upd_ne (ne_of_none q h)]; exact q, n⟩
  pre := ⟨[], by simp, fun _ z => by cases z⟩
  tab := fun t => t.ext fun b u q => by rw [upd_ne (ne_of_none q h)]; exact q
theorem sqt_new (h : H p = none) {a : Addr} {xs : List V} (q : SqT G.K H a xs) : SqT G.K (upd H p o) a xs := SqT.ext (G := G) (m := []) (m' := []) (Ext.new h) q
theorem kp_new (h : H p = none) (he : ∀ b ∈ e, ∃ u, H b = some u) : Keep G e H e (upd H p o) where
  tup := fun a xs q => sqt_new h q
  lst := fun a ns q => Sc.ext (G := G) (m := []) (m' := []) (Ext.new h) q
  lsk := fun a xs q n => ⟨by rw [upd_ne (ne_of_none q h)]; exact q, n⟩
  dic := fun a u t ks xs q n r => ⟨by rw [upd_ne (ne_of_none q h)]; exact q, n, r.ext fun _ _ z => sqt_new h z⟩
  obj := fun a φ q n => ⟨by rw [upd_ne (ne_of_none q h)]; exact q, n⟩
theorem new_out (h : H p = none) (he : ∀ b ∈ e, ∃ u, H b = some u) : p ∉ e := fun z => by
  obtain ⟨u, q⟩ := he p z
  rw [h] at q; cases q
theorem RV.newTup {ds : List D} {vs : List V} (r : RVs G e H ds vs) (h : H p = none) (he : ∀ b ∈ e, ∃ u, H b = some u) : RV G e (upd H p (.tup vs)) (.tup ds) (.ref p) :=
  .tup (.inl (.inl upd_same)) (r.keep (kp_new h he))
theorem RV.newLst {ds : List D} {vs : List V} (r : RVs G e H ds vs) (h : H p = none) (he : ∀ b ∈ e, ∃ u, H b = some u) : RV G e (upd H p (.lst vs)) (.lst ds) (.ref p) :=
  .lst upd_same (new_out h he) (r.keep (kp_new h he))
theorem RV.newDic {o : HO} {t : Bool} {ks : List NestedKey} {ds : List D} {vs : List V} (r : RVs G e H ds vs) (q : RD G H p t ks vs o) (h : H p = none) (he : ∀ b ∈ e, ∃ u, H b = some u) : RV G e (upd H p o) (.dic t ks ds) (.ref p) :=
  .dic upd_same (new_out h he) (q.ext fun _ _ z => sqt_new h z) (r.keep (kp_new h he))
theorem RS.live {S : Sto} {a : Addr} (r : RS G e m H S) (h : a ∈ m) : ∃ o, H a = some o := by
  obtain ⟨i, hi, e1⟩ := List.mem_iff_getElem.mp h
  have hl : i < S.length := by rw [← r.len]; exact hi
  obtain ⟨o, h1, _⟩ := r.at' i a S[i] (by rw [List.getElem?_eq_getElem hi, e1]) (List.getElem?_eq_getElem hl)
  exact ⟨o, h1⟩
theorem Rp.trk {ρ : Env} {S : Sto} {σ : St} (p : Rp G x m H ρ S σ) : ∀ b ∈ x ++ m, ∃ o, H b = some o := fun b hb => by
  rcases List.mem_append.mp hb with hb | hb
  · obtain ⟨o, q, _⟩ := p.ex b hb
    exact ⟨o, q⟩
  · exact p.sto.live hb
theorem RS.nt {S : Sto} {a : Addr} (r : RS G e m H S) (h : a ∈ m) : Nt H a := by
  obtain ⟨i, hi, e1⟩ := List.mem_iff_getElem.mp h
  have hl : i < S.length := by rw [← r.len]; exact hi
  obtain ⟨o, h1, h2⟩ := r.at' i a S[i] (by rw [List.getElem?_eq_getElem hi, e1]) (List.getElem?_eq_getElem hl)
  refine ⟨o, h1, ?_⟩
  generalize S[i] = c at h2
  cases h2 with
  | lst _ => exact fun ps z => by cases z
  | dic q _ => exact q.notbl
  | ins _ _ _ => exact fun ps z => by cases z
theorem Rp.trkN {ρ : Env} {S : Sto} {σ : St} (p : Rp G x m H ρ S σ) : ∀ b ∈ x ++ m, Nt H b := fun b hb => by
  rcases List.mem_append.mp hb with hb | hb
  · exact p.ex b hb
  · exact p.sto.nt hb
theorem RF.keep {e' : List Addr} {H' : Hp} (k : Keep G e H e' H') : ∀ {fs : List (Str × D)} {gs : List (Str × V)}, RF G e H fs gs → RF G e' H' fs gs
  | _, _, .nil => .nil
  | _, _, .cons r t => .cons (r.keep k) (RF.keep k t)
/-- the store stays where the cells stay -/
theorem RS.stay {S : Sto} {H' : Hp} (r : RS G (x ++ m) m H S) (E : Ext G m H m H') (h : ∀ a ∈ m, H' a = H a) : RS G (x ++ m) m H' S := by
  refine ⟨r.len, r.nd, r.ins, fun i a c h1 h2 => ?_⟩
  obtain ⟨o, q1, q2⟩ := r.at' i a c h1 h2
  refine ⟨o, by rw [h a (List.mem_of_getElem? h1)]; exact q1, ?_⟩
  cases q2 with
  | lst q => exact .lst (q.keep E.kp)
  | dic q1 q => exact .dic (q1.ext fun _ _ z => SqT.ext E z) (q.keep E.kp)
  | ins g1 g2 q => exact .ins g1 (E.owns _ _ g2) (q.keep E.kp)
theorem RS.new {S : Sto} (r : RS G (x ++ m) m H S) (h : H p = none) : RS G (x ++ m) m (upd H p o) S :=
  r.stay (Ext.new h) fun a ha => by
    obtain ⟨u, q⟩ := r.live ha
    rw [upd_ne (ne_of_none q h)]
end

/-! ### lists of expressions -/
def argsM : List ME → MA
  | [] => fun _ S => .ok [] S
  | f :: fs => fun ρ S => (f ρ S).bind fun u S1 => (argsM fs ρ S1).bind fun us S2 => .ok (u :: us) S2
theorem O.bind_ok {α β : Type} {o : O α} {f : α → Sto → O β} {b : β} {S' : Sto} (h : o.bind f = .ok b S') : ∃ a S, o = .ok a S ∧ f a S = .ok b S' := by
  cases o with
  | ok a S => exact ⟨a, S, rfl, h⟩
  | ex e S => simp [O.bind] at h
  | un => simp [O.bind] at h
theorem argsM_len : ∀ {fs : List ME} {ρ : Env} {S S' : Sto} {us : List U}, argsM fs ρ S = .ok us S' → us.length = fs.length
  | [], _, _, _, _, h => by simp [argsM] at h; simp [← h.1]
  | f :: fs, ρ, S, S', us, h => by
    obtain ⟨u, S1, h1, h2⟩ := O.bind_ok h
    obtain ⟨us', S2, h3, h4⟩ := O.bind_ok h2
    cases h4
    simp [argsM_len h3]
section
variable {X : Cx} {T : List (Addr × Str)} {W : WX} {e : Expr} {es : List Expr} {f f1 f2 : ME} {fs : List ME} {pos : Pos}
theorem a_nil : PA X [] (tA (gOf X T) W (argsM [])) := pa_mono pa_nil fun σ H Q h => by
  obtain ⟨x, m, ρ, S, p, h⟩ := h
  exact h m H Ext.refl p.sto [] .nil
theorem a_cons (ha : PE X e (tE (gOf X T) W f)) (hr : PA X es (tA (gOf X T) W (argsM fs))) (hs : starEach (e :: es) X.env = (false, eval e X.env) :: starEach es X.env := by rfl) : PA X (e :: es) (tA (gOf X T) W (argsM (f :: fs))) := pa_mono (pa_cons ha hr hs) fun σ H Q h => by
  obtain ⟨x, m, ρ, S, p, h⟩ := h
  refine ⟨x, m, ρ, S, p, (Post.bind h).mono fun u S1 m1 H1 E1 R1 ⟨_, _, h1⟩ v rv => ?_⟩
  refine ⟨x, m1, ρ, S1, p.ext E1 R1, (Post.bind h1).mono fun us S2 m2 H2 E2 R2 ⟨_, _, h2⟩ vs rvs => ?_⟩
  exact h2 m2 H2 Ext.refl R2 _ (.cons (rv.ext E2) rvs)

/-! ### names, constants -/
def varM (i : Nat) : ME := fun ρ S => match ρ[i]? with
  | some (some u) => .ok u S
  | _ => .un
def conM (d : D) : ME := fun _ S => .ok (.d d) S
theorem e_var (i : Nat) {x : Str} (hN : X.N[i]? = some x := by rfl) (hv : Vis X.env.scope x := by first | exact Or.inl rfl | exact Or.inr (Or.inl rfl) | exact Or.inr (Or.inr rfl)) (hd : (x == ("__debug__" : Str)) = false := by decide)
    (hcd : (x == ("__classdict__" : Str)) = false := by decide) : PE X (.Name x pos) (tE (gOf X T) W (varM i)) := pe_mono (pe_var hN hv hd hcd) fun σ H Q h => by
  obtain ⟨y, m, ρ, S, p, h⟩ := h
  unfold varM at h
  cases q : ρ[i]? with
  | none => rw [q] at h; exact h.elim
  | some o =>
    cases o with
    | none => rw [q] at h; exact h.elim
    | some u =>
      rw [q] at h
      obtain ⟨v, h1, h2⟩ := p.env.get q
      exact ⟨v, h1, h m H Ext.refl p.sto v h2⟩
theorem tC_of {v : V} {d : D} (hr : ∀ e H, RV (gOf X T) e H d v) : ∀ σ H Q, tE (gOf X T) W (conM d) σ H Q → tC v σ H Q := fun σ H Q h => by
  obtain ⟨x, m, ρ, S, p, h⟩ := h
  exact h m H Ext.refl p.sto v (.d (hr _ _))
theorem e_int {i j pos} : PE X (.Constant (.int i) j pos) (tE (gOf X T) W (conM (.int i))) := pe_mono pe_int (tC_of fun _ _ => .int i)
theorem e_bl {i j pos} : PE X (.Constant (.bool i) j pos) (tE (gOf X T) W (conM (.bl i))) := pe_mono pe_bl (tC_of fun _ _ => .bl i)
theorem e_non {j pos} : PE X (.Constant .none j pos) (tE (gOf X T) W (conM .non)) := pe_mono pe_non (tC_of fun _ _ => .non)
theorem e_str {i j pos} : PE X (.Constant (.str i) j pos) (tE (gOf X T) W (conM (.str i))) := pe_mono pe_str (tC_of fun _ _ => .str i)
/-- a constant of the module -/
structure KD (G : Gc) (x : Str) (d : D) : Prop where
  ex : ∃ u v, G.mg x = some u ∧ RelV v u ∧ ∀ e H, RV G e H d v
theorem e_glob {x : Str} {d : D} (h : KD (gOf X T) x d) (hg : Gl X x := by rfl) (hd : (x == ("__debug__" : Str)) = false := by decide) : PE X (.Name x pos) (tE (gOf X T) W (conM d)) := by
  obtain ⟨u, v, h1, h2, h3⟩ := h.ex
  exact pe_mono (pe_glob hg h1 h2 hd) (tC_of h3)

/-! ### displays -/
def tupM (fs : List ME) : ME := fun ρ S => (argsM fs ρ S).bind fun us S' => match pures us with
  | some ds => .ok (.d (.tup ds)) S'
  | none => .un
def lstM (fs : List ME) : ME := fun ρ S => (argsM fs ρ S).bind fun us S' => match pures us with
  | some ds => .ok (.d (.lst ds)) S'
  | none => .un
def nlsM (fs : List ME) : ME := fun ρ S => (argsM fs ρ S).bind fun us S' => match pures us with
  | some ds => .ok (.c S'.length) (S' ++ [.lst ds])
  | none => .un
theorem e_tup {k} (h : PA X es (tA (gOf X T) W (argsM fs))) (hl : Nat.ble fs.length 1000 = true := by rfl) : PE X (.Tuple es k pos) (tE (gOf X T) W (tupM fs)) := pe_mono (pe_tup h) fun σ H Q h => by
  obtain ⟨x, m, ρ, S, p, h⟩ := h
  cases q : argsM fs ρ S with
  | ok us S' =>
    refine ⟨x, m, ρ, S, p, ?_⟩
    rw [q]
    intro m1 H1 E1 R1 vs rvs
    have hn : vs.length = fs.length := by rw [← RUs.length rvs, argsM_len q]
    refine ⟨Nat.le_of_lt (small1000 (by rw [hn]; exact Nat.le_of_ble_eq_true hl)), fun p' np => ?_⟩
    simp only [tupM, q, O.bind] at h
    split at h
    · rename_i ds hd
      exact h m1 _ (E1.trans (Ext.new np)) (R1.new np) _ (.d (RV.newTup (RUs.pure rvs hd) np (p.ext E1 R1).trk))
    · exact h.elim
  | ex e S' =>
    refine ⟨x, m, ρ, S, p, ?_⟩
    simp only [tupM, q, O.bind] at h ⊢
    exact h
  | un =>
    simp only [tupM, q, O.bind] at h
    exact h.elim
theorem e_lst (h : PA X es (tA (gOf X T) W (argsM fs))) (hl : Nat.ble fs.length 1000 = true := by rfl) : PE X (.List es pos) (tE (gOf X T) W (lstM fs)) := pe_mono (pe_lst h) fun σ H Q h => by
  obtain ⟨x, m, ρ, S, p, h⟩ := h
  cases q : argsM fs ρ S with
  | ok us S' =>
    refine ⟨x, m, ρ, S, p, ?_⟩
    rw [q]
    intro m1 H1 E1 R1 vs rvs
    have hn : vs.length = fs.length := by rw [← RUs.length rvs, argsM_len q]
    refine ⟨Nat.le_of_lt (small1000 (by rw [hn]; exact Nat.le_of_ble_eq_true hl)), fun p' np => ?_⟩
    simp only [lstM, q, O.bind] at h
    split at h
    · rename_i ds hd
      exact h m1 _ (E1.trans (Ext.new np)) (R1.new np) _ (.d (RV.newLst (RUs.pure rvs hd) np (p.ext E1 R1).trk))
    · exact h.elim
  | ex e S' =>
    refine ⟨x, m, ρ, S, p, ?_⟩
    simp only [lstM, q, O.bind] at h ⊢
    exact h
  | un =>
    simp only [lstM, q, O.bind] at h
    exact h.elim
end
/-! a new object becomes a cell -/
section
variable {G : Gc} {x m : List Addr} {H : Hp} {S : Sto} {p : Addr} {o : HO} {c : Cell}
theorem Ext.cell (np : H p = none) : Ext G m H (m ++ [p]) (upd H p o) :=
  { (Ext.new (G := G) (m := m) (o := o) np) with pre := ⟨[p], rfl, fun b hb => by have : b = p := by simpa using hb
                                                                                  subst this; exact fun ⟨u, q, _⟩ => by rw [np] at q; cases q⟩ }
theorem RC.ext {m' : List Addr} {H' : Hp} {a : Addr} {c : Cell} {o : HO} (E : Ext G m H m' H') (q : RC G (x ++ m) H a c o) : RC G (x ++ m') H' a c o := by
  cases q with
  | lst q => exact .lst (q.keep E.kp)
  | dic q1 q => exact .dic (q1.ext fun _ _ z => SqT.ext E z) (q.keep E.kp)
  | ins g1 g2 q => exact .ins g1 (E.owns _ _ g2) (q.keep E.kp)
theorem RS.cell (r : RS G (x ++ m) m H S) (np : H p = none) (hc : RC G (x ++ (m ++ [p])) (upd H p o) p c o) : RS G (x ++ (m ++ [p])) (m ++ [p]) (upd H p o) (S ++ [c]) := by
  have nm : p ∉ m := fun z => by
    obtain ⟨u, q⟩ := r.live z
    rw [np] at q; cases q
  refine ⟨by simp [r.len], List.nodup_append.mpr ⟨r.nd, by simp, fun a ha b hb => ?_⟩, fun b hb => ?_, fun i a c' h1 h2 => ?_⟩
  · have : b = p := by simpa using hb
    subst this
    exact fun z => nm (z ▸ ha)
  · exact List.mem_append_right _ hb
  · by_cases hi : i < m.length
    · rw [List.getElem?_append_left hi] at h1
      rw [List.getElem?_append_left (by rw [← r.len]; exact hi)] at h2
      obtain ⟨o', q1, q2⟩ := r.at' i a c' h1 h2
      exact ⟨o', by rw [upd_ne (ne_of_none q1 np)]; exact q1, q2.ext (Ext.cell np)⟩
    · have e1 : i = m.length := by
        have := (List.getElem?_eq_some_iff.mp h1).1
        simp at this
        omega
      subst e1
      rw [List.getElem?_append_right (Nat.le_refl _), Nat.sub_self] at h1
      rw [r.len, List.getElem?_append_right (Nat.le_refl _), Nat.sub_self] at h2
      have e2 : p = a := Option.some.inj h1
      have e3 : c = c' := Option.some.inj h2
      subst e2 e3
      exact ⟨o, upd_same, hc⟩
end
section
variable {X : Cx} {T : List (Addr × Str)} {W : WX} {e : Expr} {es : List Expr} {f f1 f2 : ME} {fs : List ME} {pos : Pos}
theorem e_nls (h : PA X es (tA (gOf X T) W (argsM fs))) (hl : Nat.ble fs.length 1000 = true := by rfl) : PE X (.List es pos) (tE (gOf X T) W (nlsM fs)) := pe_mono (pe_lst h) fun σ H Q h => by
  obtain ⟨x, m, ρ, S, p, h⟩ := h
  cases q : argsM fs ρ S with
  | ok us S' =>
    refine ⟨x, m, ρ, S, p, ?_⟩
    rw [q]
    intro m1 H1 E1 R1 vs rvs
    have hn : vs.length = fs.length := by rw [← RUs.length rvs, argsM_len q]
    refine ⟨Nat.le_of_lt (small1000 (by rw [hn]; exact Nat.le_of_ble_eq_true hl)), fun p' np => ?_⟩
    simp only [nlsM, q, O.bind] at h
    split at h
    · rename_i ds hd
      have E2 : Ext (gOf X T) m1 H1 (m1 ++ [p']) (upd H1 p' (.lst vs)) := Ext.cell np
      exact h (m1 ++ [p']) _ (E1.trans E2) (R1.cell np (.lst ((RUs.pure rvs hd).keep E2.kp))) _ (.c (by rw [← R1.len]; simp))
    · exact h.elim
  | ex e S' =>
    refine ⟨x, m, ρ, S, p, ?_⟩
    simp only [nlsM, q, O.bind] at h ⊢
    exact h
  | un =>
    simp only [nlsM, q, O.bind] at h
    exact h.elim

/-! ### operators -/
def op2M (g : D → D → Option D) (f1 f2 : ME) : ME := fun ρ S => (f1 ρ S).bind fun u S1 => (f2 ρ S1).bind fun w S2 =>
  match rd S2 u, rd S2 w with
  | some x, some y => match g x y with
    | some z => .ok (.d z) S2
    | none => .un
  | _, _ => .un
def op1M (g : D → Option D) (f1 : ME) : ME := fun ρ S => (f1 ρ S).bind fun u S1 =>
  match rd S1 u with
  | some x => match g x with
    | some z => .ok (.d z) S1
    | none => .un
  | none => .un
/-- an operation that makes no cell and changes none: what is asked, by data -/
def rG (G : Gc) (g : D → D → Option D) : R2 := fun vx vy H Q => ∃ x y z e m, g x y = some z ∧ (∀ b ∈ e, ∃ o, H b = some o) ∧ RT G e H x vx ∧ RT G e H y vy ∧
  ∀ H' w, Ext G m H m H' → (∀ a ∈ m, H a ≠ none → H' a = H a) → RV G e H' z w → Q w H'
def rG1 (G : Gc) (g : D → Option D) : V → Hp → VK → Prop := fun vx H Q => ∃ x z e m, g x = some z ∧ (∀ b ∈ e, ∃ o, H b = some o) ∧ RT G e H x vx ∧
  ∀ H' w, Ext G m H m H' → (∀ a ∈ m, H a ≠ none → H' a = H a) → RV G e H' z w → Q w H'
theorem op2_red {a b : TE} {g : D → D → Option D} {σ : St} {H : Hp} {Q : VK} (h : tE (gOf X T) W (op2M g f1 f2) σ H Q) : tOp (rG (gOf X T) g) (tE (gOf X T) W f1) (tE (gOf X T) W f2) σ H Q := by
  obtain ⟨x, m, ρ, S, p, h⟩ := h
  refine ⟨x, m, ρ, S, p, (Post.bind h).mono fun u S1 m1 H1 E1 R1 ⟨_, _, h1⟩ v rv => ?_⟩
  refine ⟨x, m1, ρ, S1, p.ext E1 R1, (Post.bind h1).mono fun w S2 m2 H2 E2 R2 ⟨_, _, h2⟩ v' rv' => ?_⟩
  have p2 := (p.ext E1 R1).ext E2 R2
  skip
  split at h2
  · rename_i dx dy q1 q2
    split at h2
    · rename_i z q3
      exact ⟨dx, dy, z, x ++ m2, m2, q3, p2.trk, (rv.ext E2).rt R2 q1, rv'.rt R2 q2, fun H' w' E3 hs r => h2 m2 H' E3 (R2.stay E3 fun a ha => hs a ha (by obtain ⟨o, q⟩ := R2.live ha; rw [q]; simp)) w' (.d r)⟩
    · exact h2.elim
  · exact h2.elim
theorem op1_red {g : D → Option D} {σ : St} {H : Hp} {Q : VK} (h : tE (gOf X T) W (op1M g f1) σ H Q) : tUn (rG1 (gOf X T) g) (tE (gOf X T) W f1) σ H Q := by
  obtain ⟨x, m, ρ, S, p, h⟩ := h
  refine ⟨x, m, ρ, S, p, (Post.bind h).mono fun u S1 m1 H1 E1 R1 ⟨_, _, h1⟩ v rv => ?_⟩
  have p1 := p.ext E1 R1
  skip
  split at h1
  · rename_i dx q1
    split at h1
    · rename_i z q3
      exact ⟨dx, z, x ++ m1, m1, q3, p1.trk, rv.rt R1 q1, fun H' w' E3 hs r => h1 m1 H' E3 (R1.stay E3 fun a ha => hs a ha (by obtain ⟨o, q⟩ := R1.live ha; rw [q]; simp)) w' (.d r)⟩
    · exact h1.elim
  · exact h1.elim
theorem e_op {a b : Expr} {op : Operator} {g : D → D → Option D} (ho : OpR X (binaryOp op) (rG (gOf X T) g)) (ha : PE X a (tE (gOf X T) W f1)) (hb : PE X b (tE (gOf X T) W f2)) : PE X (.BinOp a op b pos) (tE (gOf X T) W (op2M g f1 f2)) :=
  pe_mono (pe_op ho ha hb) fun σ H Q h => op2_red (a := fun _ _ _ => True) (b := fun _ _ _ => True) h
theorem e_cmp {a b : Expr} {op : CmpOp} {g : D → D → Option D} (ho : OpR X (compareOp op) (rG (gOf X T) g)) (ha : PE X a (tE (gOf X T) W f1)) (hb : PE X b (tE (gOf X T) W f2)) (hm : behindInMarks op b = false := by first | exact nomark _ | rfl) : PE X (.Compare a [op] [b] pos) (tE (gOf X T) W (op2M g f1 f2)) :=
  pe_mono (pe_cmpR ho ha hb hm) fun σ H Q h => op2_red (a := fun _ _ _ => True) (b := fun _ _ _ => True) h
theorem e_un {a : Expr} {op : UnaryOp} {g : D → Option D} (ho : UnR X (unaryOp op) (rG1 (gOf X T) g)) (ha : PE X a (tE (gOf X T) W f1)) : PE X (.UnaryOp op a pos) (tE (gOf X T) W (op1M g f1)) :=
  pe_mono (pe_un ho ha) fun σ H Q h => op1_red h
/-- a value that is a truth, as a test -/
def tstM (f : ME) : MT := fun ρ S => (f ρ S).bind fun u S1 => match u with
  | .d (.bl b) => .ok b S1
  | _ => .un
theorem tst_red {t : TE} {σ : St} {H : Hp} {Q : Bool → Hp → Prop} (h : tT (gOf X T) W (tstM f) σ H Q) : tE (gOf X T) W f σ H fun x H' => ∃ k, x = .bl k ∧ Q k H' := by
  obtain ⟨x, m, ρ, S, p, h⟩ := h
  refine ⟨x, m, ρ, S, p, (Post.bind h).mono fun u S1 m1 H1 E1 R1 ⟨_, _, h1⟩ v rv => ?_⟩
  split at h1
  · rename_i b
    cases rv with
    | d r => cases r; exact ⟨_, rfl, h1 m1 H1 Ext.refl R1⟩
  · exact h1.elim
theorem t_cmp {a b : Expr} {op : CmpOp} {g : D → D → Option D} (ho : OpR X (compareOp op) (rG (gOf X T) g)) (ha : PE X a (tE (gOf X T) W f1)) (hb : PE X b (tE (gOf X T) W f2)) (hm : behindInMarks op b = false := by first | exact nomark _ | rfl) : PT X (.Compare a [op] [b] pos) (tT (gOf X T) W (tstM (op2M g f1 f2))) :=
  pt_mono (pt_cmpR ho ha hb hm) fun σ H Q h => op2_red (a := fun _ _ _ => True) (b := fun _ _ _ => True) (tst_red (t := fun _ _ _ => True) h)
theorem t_val {e : Expr} (h : PE X e (tE (gOf X T) W f)) (he : ∀ whole, isTrue e X.env whole = (do let v ← whole; standAt e.pos; holding [v] (truthy v)) := by intro _; rfl) : PT X e (tT (gOf X T) W (tstM f)) :=
  pt_mono (pt_val h he) fun σ H Q h => tst_red (t := fun _ _ _ => True) h
end
end Mir

/-! Mir3: the operators, by data. -/
namespace Mir
open PySem PySem.Spec PyProof.Rows L2
theorem tuple_mul1W (l : Addr) (items : Array Value) (n : Nat) (dd : Option Addr) (sl : Array (Option Value)) (x : Int) (u : Tok) (c0 : (decide (x < -(2 ^ 63)) || decide (x ≥ 2 ^ 63)) = false) (c1 : (items.isEmpty || x == 1) = true) :
    Meets (Builtin.«tuple.__mul__» ⟨[.ref l, .int x u], []⟩) (fun _ R s => s.heap.get? l = some { cls := .type "tuple", dict := dd, data := .seq items n, slots := sl } ∧
      R (.ok (.ret (Value.ref l))) { s with heap := s.heap, toks := s.toks }) :=
  .of_wp fun prog w A R s h => by
    obtain ⟨hp, g, d, tk, os⟩ := s
    obtain ⟨hl, h⟩ := h
    have f1 := AutoSeq1.idx_int
    wp_walk using wpAny_loadPart' hl
    repeat (first
      | (refine wpAny_ite_false (decide_eq_false (by rw [c0]; exact Bool.false_ne_true)) ?_; wp_walk using wpAny_loadPart' hl)
      | (refine wpAny_ite_true (decide_eq_true (by rw [c1])) ?_; wp_walk using wpAny_loadPart' hl))
    exact ⟨_, rfl, h⟩
theorem tuple_mul0W (l : Addr) (items : Array Value) (n : Nat) (dd : Option Addr) (sl : Array (Option Value)) (x : Int) (u : Tok) (c0 : (decide (x < -(2 ^ 63)) || decide (x ≥ 2 ^ 63)) = false) (c1 : (items.isEmpty || x == 1) = false) (c2 : (decide (x ≤ 0) || items.isEmpty) = true) :
    Meets (Builtin.«tuple.__mul__» ⟨[.ref l, .int x u], []⟩) (fun _ R s => s.heap.get? l = some { cls := .type "tuple", dict := dd, data := .seq items n, slots := sl } ∧
      R (.ok (.ret (Value.ref s.heap.objs.size))) { s with heap := s.heap.push { cls := Value.type "tuple", data := Data.seq #[] }, toks := s.toks }) :=
  .of_wp fun prog w A R s h => by
    obtain ⟨hp, g, d, tk, os⟩ := s
    obtain ⟨hl, h⟩ := h
    have f1 := AutoSeq1.idx_int
    wp_walk using wpAny_loadPart' hl
    repeat (first
      | (refine wpAny_ite_false (decide_eq_false (by rw [c0]; exact Bool.false_ne_true)) ?_; wp_walk using wpAny_loadPart' hl)
      | (refine wpAny_ite_false (decide_eq_false (by rw [c1]; exact Bool.false_ne_true)) ?_; wp_walk using wpAny_loadPart' hl)
      | (refine wpAny_ite_true (decide_eq_true (by rw [c2])) ?_; wp_walk using wpAny_loadPart' hl))
    exact ⟨_, rfl, h⟩
/-- t * k: the tuple itself; the empty one; a new one -/
def rRepA (K : PySem.W.Frag) : R2 := fun x y H Q => ∃ l k xs, x = .ref l ∧ y = .int k ∧ SqT K H l xs ∧ -1000 ≤ k ∧ k ≤ 1000 ∧ xs.length ≤ 1000 ∧
  (xs = [] ∨ k = 1 → Q (.ref l) H) ∧ (¬ (xs = [] ∨ k = 1) → ∀ p, H p = none → Q (.ref p) (upd H p (.tup (List.replicate k.toNat xs).flatten)))
section
variable {X : Cx}
theorem op_repA : OpR X (binaryOp .Mult) (rRepA X.K) := by
  intro pins s σ H x y v u Q I rx ry h
  obtain ⟨l, k, xs, rfl, rfl, hT, h0, h1, hz, q1, q2⟩ := h
  by_cases hs : xs = [] ∨ k = 1
  · have q := q1 hs
    cases rx
    obtain ⟨t, rfl⟩ := ry
    obtain ⟨its, r, ⟨⟨cls, dd, data, sl⟩, ho, hc, n, hd⟩, hs2⟩ := I.tuple hT
    simp only at hc hd
    subst hc hd
    have hle : its.length = xs.length := r.length.symm
    have c0 : (decide (k < -(2 ^ 63)) || decide (k ≥ 2 ^ 63)) = false := by
      rw [decide_eq_false (by omega), decide_eq_false (by omega)] <;> rfl
    have c1 : (its.toArray.isEmpty || k == 1) = true := by
      rcases hs with e | e
      · subst e
        have : its = [] := List.eq_nil_of_length_eq_zero hle
        subst this
        rfl
      · subst e
        simp
    exact wpAny_binaryOp_repeat_ref (T := "tuple") (U := "int") (by decide) ⟨_, ho, rfl⟩ (fun s' => typeIs_int s' k t) noFill_tuple_mul F.fills_int_mul F.slot_int_rmul repeat_tuple F.slot_int_index.lookup
      (call_meets F.slot_int_rmul (typeIs_int s k t) F.entry_int_rmul (F.args_int_rmul_2 _ _) (int_rmul_tuple k t l its.toArray n dd sl)
        ⟨ho, rfl, ⟨_, ho, rfl⟩, call_meets F.slot_tuple_mul ⟨_, ho, rfl⟩ F.entry_tuple_mul (F.args_tuple_mul_2 _ _) (tuple_mul1W l its.toArray n dd sl k t c0 c1) ⟨ho, ⟨.ref l, H, I, rfl, q⟩⟩⟩)
  · have hne : xs ≠ [] := fun e => hs (.inl e)
    have hk1 : k ≠ 1 := fun e => hs (.inr e)
    by_cases h2 : 2 ≤ k
    · exact op_repT pins s σ H _ _ v u Q I rx ry ⟨l, k, xs, rfl, rfl, hT, hne, h2, h1, hz, q2 hs⟩
    · cases rx
      obtain ⟨t, rfl⟩ := ry
      obtain ⟨its, r, ⟨⟨cls, dd, data, sl⟩, ho, hc, n, hd⟩, hs2⟩ := I.tuple hT
      simp only at hc hd
      subst hc hd
      have hle : its.length = xs.length := r.length.symm
      have hn : its ≠ [] := fun e => hne (by
        rw [e] at hle
        exact List.eq_nil_of_length_eq_zero hle.symm)
      have hi : its.toArray.isEmpty = false := by
        cases its with
        | nil => exact absurd rfl hn
        | cons a b => rfl
      have c0 : (decide (k < -(2 ^ 63)) || decide (k ≥ 2 ^ 63)) = false := by
        rw [decide_eq_false (by omega), decide_eq_false (by omega)] <;> rfl
      have c1 : (its.toArray.isEmpty || k == 1) = false := by
        rw [hi, Bool.false_or]
        exact beq_eq_false_iff_ne.mpr (by omega)
      have c2 : (decide (k ≤ 0) || its.toArray.isEmpty) = true := by
        rw [decide_eq_true (by omega)]; rfl
      have hk0 : k.toNat = 0 := by omega
      have q3 := q2 hs
      rw [hk0] at q3
      refine wpAny_binaryOp_repeat_ref (T := "tuple") (U := "int") (by decide) ⟨_, ho, rfl⟩ (fun s' => typeIs_int s' k t) noFill_tuple_mul F.fills_int_mul F.slot_int_rmul repeat_tuple F.slot_int_index.lookup
        (call_meets F.slot_int_rmul (typeIs_int s k t) F.entry_int_rmul (F.args_int_rmul_2 _ _) (int_rmul_tuple k t l its.toArray n dd sl)
          ⟨ho, rfl, ⟨_, ho, rfl⟩, call_meets F.slot_tuple_mul ⟨_, ho, rfl⟩ F.entry_tuple_mul (F.args_tuple_mul_2 _ _) (tuple_mul0W l its.toArray n dd sl k t c0 c1 c2) ⟨ho, ?_⟩⟩)
      refine ⟨.ref s.heap.objs.size, _, I.laid (t' := s.toks) (o := .tup []) (fun b ob q => Heap.get?_push_of_some _ q) (Nat.le_refl _) ?_, rfl, q3 _ (I.hok.fresh (Nat.le_refl _))⟩
      exact ⟨by rw [sizeLine_eq]; decide, [], .nil, IsTup.new _ _⟩
end
def big : Nat := 1000000
theorem big_ok {n : Nat} (h : n ≤ big) : n ≤ sizeLine := Nat.le_trans h (by rw [sizeLine_eq]; decide)
theorem big_lt {n : Nat} (h : n ≤ big) : n < sizeLine := Nat.lt_of_le_of_lt h (by rw [sizeLine_eq]; decide)

/-! ### data as the library's data -/
mutual
def D.P : D → PyData
  | .non => .none
  | .bl b => .bool b
  | .int i => .int i
  | .str x => .str x
  | .tup xs => .tuple (Ps xs)
  | .lst xs => .list (Ps xs)
  | .dic _ _ _ => .dict []
  | .scr _ => .dict []
  | .obj _ _ => .dict []
def Ps : List D → List PyData
  | [] => []
  | d :: ds => D.P d :: Ps ds
end
theorem Ps_map : ∀ ds : List D, Ps ds = ds.map D.P
  | [] => rfl
  | d :: ds => by simp [Ps, Ps_map ds]
section
variable {G : Gc} {e : List Addr} {H : Hp}
mutual
theorem RV.dp : ∀ {d : D} {v : V}, RV G e H d v → PyData.canLay0 d.P = true → Dp G.K H v d.P
  | _, _, .non, _ => .non
  | _, _, .bl b, _ => .bl b
  | _, _, .int i, _ => .int i
  | _, _, .str x, _ => .str x
  | _, _, .tup h r, c => .tup h (RVs.dp r c)
  | _, _, .lst h n r, c => .lst (.of h) (RVs.dp r c)
  | _, _, .scr h, c => by simp [D.P, PyData.canLay0] at c
  | _, _, .dic h n q r, c => by simp [D.P, PyData.canLay0] at c
  | _, _, .obj h r, c => by simp [D.P, PyData.canLay0] at c
theorem RVs.dp : ∀ {ds : List D} {vs : List V}, RVs G e H ds vs → PyData.canLayAll0 (Ps ds) = true → DpAll G.K H vs (Ps ds)
  | _, _, .nil, _ => .nil
  | _, _, .cons r t, c => by
    have c' := Bool.and_eq_true_iff.mp (show (PyData.canLay0 (D.P _) && PyData.canLayAll0 (Ps _)) = true from c)
    exact .cons (RV.dp r c'.1) (RVs.dp t c'.2)
end
theorem RT.dp {d : D} {v : V} (r : RT G e H d v) (c : SeqAt.shaped d.P = true) : Dp G.K H v d.P := by
  have c0 := SeqAt.canLay_of_shaped c
  cases r with
  | of r => exact r.dp c0
  | lst h r => exact .lst (.of h) (r.dp c0)
  | dic h q r => simp [D.P, PyData.canLay0] at c0
end

/-! ### arithmetic -/
def mulOk (i j : Int) : Bool := decide (i.natAbs < 2 ^ 64) || decide (j.natAbs < 2 ^ 64)
def addG : D → D → Option D
  | .int i, .int j => some (.int (i + j))
  | .str x, .str y => if x.length + y.length ≤ big then some (.str (x ++ y)) else none
  | .tup xs, .tup ys => if xs.length + ys.length ≤ big then some (.tup (xs ++ ys)) else none
  | .lst xs, .lst ys => if xs.length + ys.length ≤ big then some (.lst (xs ++ ys)) else none
  | .lst xs, .scr ns => if xs.length + ns.length ≤ big then some (.lst (xs ++ ns.map D.int)) else none
  | .scr ns, .lst xs => if ns.length + xs.length ≤ big then some (.lst (ns.map D.int ++ xs)) else none
  | _, _ => none
def subG : D → D → Option D
  | .int i, .int j => some (.int (i - j))
  | _, _ => none
def mulG : D → D → Option D
  | .int i, .int j => if mulOk i j then some (.int (i * j)) else none
  | .tup xs, .int k => if -1000 ≤ k ∧ k ≤ 1000 ∧ xs.length ≤ 1000 then some (.tup (List.replicate k.toNat xs).flatten) else none
  | .lst xs, .int k => if 0 ≤ k ∧ k ≤ 1000 ∧ xs.length ≤ 1000 then some (.lst (List.replicate k.toNat xs).flatten) else none
  | _, _ => none
def fdivG : D → D → Option D
  | .int i, .int j => if 0 < j ∧ j.natAbs.log2 < 9000 then some (.int (i / j)) else none
  | _, _ => none
def modG : D → D → Option D
  | .int i, .int j => if 0 < j then some (.int (i % j)) else none
  | _, _ => none
def powG : D → D → Option D
  | .int i, .int j => if 0 ≤ j ∧ j ≤ 1000000 ∧ i.natAbs < 2 ^ 64 then some (.int (i ^ j.toNat)) else none
  | _, _ => none
def negG : D → Option D
  | .int i => some (.int (-i))
  | _ => none
def ltG : D → D → Option D
  | .int i, .int j => some (.bl (decide (i < j)))
  | .str x, .str y => some (.bl (decide (x.cps.toList < y.cps.toList)))
  | _, _ => none
def leG : D → D → Option D
  | .int i, .int j => some (.bl (decide (i ≤ j)))
  | _, _ => none
def gtG : D → D → Option D
  | .int i, .int j => some (.bl (decide (j < i)))
  | _, _ => none
def geG : D → D → Option D
  | .int i, .int j => some (.bl (decide (j ≤ i)))
  | _, _ => none
def eqD (x y : D) : Bool := PyData.eqv x.P y.P
def sh (x : D) : Bool := SeqAt.shaped x.P
def eqG (x y : D) : Option D := if sh x && sh y then some (.bl (eqD x y)) else none
def neG (x y : D) : Option D := if sh x && sh y then some (.bl (!eqD x y)) else none
def isNon : D → Bool
  | .non => true
  | _ => false
def isG : D → D → Option D
  | x, .non => some (.bl (isNon x))
  | .bl a, .bl b => some (.bl (a == b))
  | _, _ => none
def isNotG : D → D → Option D
  | x, .non => some (.bl (!isNon x))
  | .bl a, .bl b => some (.bl (!(a == b)))
  | _, _ => none

section
variable {X : Cx} {T : List (Addr × Str)} {pins : List (Addr × Obj)} {s : Shared} {σ : St} {H : Hp} {x y : D} {e : List Addr} {vx vy : V} {v u : Value} {Q : VK}
theorem noKeep {m : List Addr} {H H' : Hp} (h : H' = H) : ∀ a ∈ m, H a ≠ none → H' a = H a := fun _ _ _ => by rw [h]
theorem newKeep {m : List Addr} {H : Hp} {p : Addr} {o : HO} (h : H p = none) : ∀ a ∈ m, H a ≠ none → upd H p o a = H a := fun a _ q => upd_ne fun z => q (z ▸ h)
/-- list + list, tracked or known -/
theorem op_catL : OpR X (binaryOp .Add) (fun x y H Q => ∃ l b xs zs, x = .ref l ∧ y = .ref b ∧ SqL X.K H l xs ∧ SqL X.K H b zs ∧ xs.length + zs.length ≤ sizeLine ∧ ∀ p, H p = none → Q (.ref p) (upd H p (.lst (xs ++ zs)))) := by
  intro pins s σ H x y v u Q I rx ry h
  obtain ⟨l, b, xs, zs, rfl, rfl, hH, hB, hz, q⟩ := h
  cases rx
  cases ry
  obtain ⟨its1, r1, ⟨⟨c1, d1, t1, s1⟩, n1, g1, e1, f1, k1⟩, _⟩ := I.list hH
  obtain ⟨its2, r2, ⟨⟨c2, d2, t2, s2⟩, n2, g2, e2, f2, k2⟩, _⟩ := I.list hB
  simp only at e1 f1 k1 e2 f2 k2
  subst e1 f1 k1 e2 f2 k2
  refine concat_meets ⟨_, g1, rfl⟩ ⟨_, g2, rfl⟩ noFill_list_add seq_list_add PySem.F.slot_list_add PySem.F.entry_list_add (PySem.F.args_list_add_2 _ _)
    (list_addW l b its1.toArray its2.toArray n1 n2 none none s1 s2 (by rw [List.size_toArray, List.size_toArray, ← r1.length, ← r2.length]; exact hz)) ⟨g1, g2, ?_⟩
  rw [show its1.toArray ++ its2.toArray = (its1 ++ its2).toArray by simp]
  exact ⟨.ref _, _, I.lnew (t' := s.toks) (r1.append r2) (by rw [List.length_append]; exact hz), rfl, q _ I.fresh⟩
theorem RT.tup {G : Gc} {ds : List D} (r : RT G e H (.tup ds) vx) : ∃ a xs, vx = .ref a ∧ SqT G.K H a xs ∧ RVs G e H ds xs := by
  cases r with
  | of r => cases r with
    | tup h r => exact ⟨_, _, rfl, h, r⟩
theorem RT.lst' {G : Gc} {ds : List D} (r : RT G e H (.lst ds) vx) : ∃ a xs, vx = .ref a ∧ H a = some (.lst xs) ∧ RVs G e H ds xs := by
  cases r with
  | of r => cases r with
    | lst h n r => exact ⟨_, _, rfl, h, r⟩
  | lst h r => exact ⟨_, _, rfl, h, r⟩
theorem RT.dic' {G : Gc} {t : Bool} {ks : List NestedKey} {ds : List D} (r : RT G e H (.dic t ks ds) vx) : ∃ a o xs, vx = .ref a ∧ H a = some o ∧ RD G H a t ks xs o ∧ RVs G e H ds xs := by
  cases r with
  | of r => cases r with
    | dic h n q r => exact ⟨_, _, _, rfl, h, q, r⟩
  | dic h q r => exact ⟨_, _, _, rfl, h, q, r⟩
theorem RT.int {G : Gc} {i : Int} (r : RT G e H (.int i) vx) : vx = .int i := by
  cases r with
  | of r => cases r; rfl
theorem RT.str {G : Gc} {i : Str} (r : RT G e H (.str i) vx) : vx = .str i := by
  cases r with
  | of r => cases r; rfl
theorem RT.bl {G : Gc} {i : Bool} (r : RT G e H (.bl i) vx) : vx = .bl i := by
  cases r with
  | of r => cases r; rfl
theorem RT.non {G : Gc} (r : RT G e H .non vx) : vx = .non := by
  cases r with
  | of r => cases r; rfl

theorem RT.scr {G : Gc} {ns : List Int} (r : RT G e H (.scr ns) vx) : ∃ a, vx = .ref a ∧ SqL G.K H a (ns.map V.int) := by
  cases r with
  | of r => cases r with
    | scr h => exact ⟨_, rfl, h.sq⟩
theorem rvs_ints {G : Gc} : ∀ ns : List Int, RVs G e H (ns.map D.int) (ns.map V.int)
  | [] => .nil
  | n :: ns => .cons (.int n) (rvs_ints ns)
theorem o_add : OpR X (binaryOp .Add) (rG (gOf X T) addG) := by
  intro pins s σ H vx vy v u Q I rx ry ⟨x, y, z, e, m, hg, tr, r1, r2, q⟩
  unfold addG at hg
  split at hg
  · rename_i i j
    cases hg
    cases r1.int
    cases r2.int
    exact op_add pins s σ H _ _ v u Q I rx ry ⟨i, j, rfl, rfl, q _ _ Ext.refl (noKeep rfl) (.int _)⟩
  · rename_i i j
    split at hg
    · rename_i hl
      cases hg
      cases r1.str
      cases r2.str
      exact op_add_str pins s σ H _ _ v u Q I rx ry ⟨i, j, rfl, rfl, big_ok hl, q _ _ Ext.refl (noKeep rfl) (.str _)⟩
    · cases hg
  · rename_i ds es
    split at hg
    · rename_i hl
      cases hg
      obtain ⟨a, xs, rfl, h1, q1⟩ := r1.tup
      obtain ⟨b, ys, rfl, h2, q2⟩ := r2.tup
      rw [q1.len, q2.len] at hl
      refine op_catA pins s σ H _ _ v u Q I rx ry ⟨a, b, xs, ys, rfl, rfl, h1, h2, big_ok hl, fun z => ?_, fun _ z => ?_, fun _ _ p hp => ?_⟩
      · subst z
        cases q1
        exact q _ _ Ext.refl (noKeep rfl) (.tup h2 q2)
      · subst z
        cases q2
        rw [List.append_nil] at q
        exact q _ _ Ext.refl (noKeep rfl) (.tup h1 q1)
      · exact q _ _ (Ext.new hp) (newKeep hp) (RV.newTup (q1.append q2) hp tr)
    · cases hg
  · rename_i ds es
    split at hg
    · rename_i hl
      cases hg
      obtain ⟨a, xs, rfl, h1, q1⟩ := r1.lst'
      obtain ⟨b, ys, rfl, h2, q2⟩ := r2.lst'
      rw [q1.len, q2.len] at hl
      exact op_catL pins s σ H _ _ v u Q I rx ry ⟨a, b, xs, ys, rfl, rfl, .of h1, .of h2, big_ok hl, fun p hp => q _ _ (Ext.new hp) (newKeep hp) (RV.newLst (q1.append q2) hp tr)⟩
    · cases hg
  · rename_i ds ns
    split at hg
    · rename_i hl
      cases hg
      obtain ⟨a, xs, rfl, h1, q1⟩ := r1.lst'
      obtain ⟨b, rfl, h2⟩ := r2.scr
      rw [q1.len] at hl
      exact op_catL pins s σ H _ _ v u Q I rx ry ⟨a, b, xs, _, rfl, rfl, .of h1, h2, by rw [List.length_map]; exact big_ok hl, fun p hp => q _ _ (Ext.new hp) (newKeep hp) (RV.newLst (q1.append (rvs_ints ns)) hp tr)⟩
    · cases hg
  · rename_i ns ds
    split at hg
    · rename_i hl
      cases hg
      obtain ⟨a, xs, rfl, h1, q1⟩ := r2.lst'
      obtain ⟨b, rfl, h2⟩ := r1.scr
      rw [q1.len] at hl
      exact op_catL pins s σ H _ _ v u Q I rx ry ⟨b, a, _, xs, rfl, rfl, h2, .of h1, by rw [List.length_map]; exact big_ok hl, fun p hp => q _ _ (Ext.new hp) (newKeep hp) (RV.newLst ((rvs_ints ns).append q1) hp tr)⟩
    · cases hg
  · cases hg
theorem o_sub : OpR X (binaryOp .Sub) (rG (gOf X T) subG) := by
  intro pins s σ H vx vy v u Q I rx ry ⟨x, y, z, e, m, hg, tr, r1, r2, q⟩
  unfold subG at hg
  split at hg
  · rename_i i j
    cases hg
    cases r1.int
    cases r2.int
    exact op_sub pins s σ H _ _ v u Q I rx ry ⟨i, j, rfl, rfl, q _ _ Ext.refl (noKeep rfl) (.int _)⟩
  · cases hg
theorem o_mul : OpR X (binaryOp .Mult) (rG (gOf X T) mulG) := by
  intro pins s σ H vx vy v u Q I rx ry ⟨x, y, z, e, m, hg, tr, r1, r2, q⟩
  unfold mulG at hg
  split at hg
  · rename_i i j
    split at hg
    · rename_i hm
      cases hg
      cases r1.int
      cases r2.int
      refine op_mul pins s σ H _ _ v u Q I rx ry ⟨i, j, rfl, rfl, ?_, q _ _ Ext.refl (noKeep rfl) (.int _)⟩
      rcases Bool.or_eq_true_iff.mp hm with h | h
      · exact .inl (by have := of_decide_eq_true h; omega)
      · exact .inr (by have := of_decide_eq_true h; omega)
    · cases hg
  · rename_i ds k
    split at hg
    · rename_i hm
      cases hg
      obtain ⟨h1, h2, h3⟩ := hm
      cases r2.int
      obtain ⟨a, xs, rfl, t1, q1⟩ := r1.tup
      refine op_repA pins s σ H _ _ v u Q I rx ry ⟨a, k, xs, rfl, rfl, t1, h1, h2, by rw [← q1.len]; exact h3, fun z => ?_, fun _ p hp => q _ _ (Ext.new hp) (newKeep hp) (RV.newTup (q1.flat _) hp tr)⟩
      rcases z with z | z
      · subst z
        cases q1
        have e : (List.replicate k.toNat ([] : List D)).flatten = [] := by simp
        rw [e] at q
        exact q _ _ Ext.refl (noKeep rfl) (.tup t1 .nil)
      · subst z
        have e : (List.replicate (1 : Int).toNat ds).flatten = ds := by simp
        rw [e] at q
        exact q _ _ Ext.refl (noKeep rfl) (.tup t1 q1)
    · cases hg
  · rename_i ds k
    split at hg
    · rename_i hm
      cases hg
      obtain ⟨h1, h2, h3⟩ := hm
      cases r2.int
      obtain ⟨a, xs, rfl, t1, q1⟩ := r1.lst'
      have hb : xs.length * k.toNat ≤ sizeLine := by
        rw [← q1.len]
        exact big_ok (Nat.le_trans (Nat.mul_le_mul h3 (show k.toNat ≤ 1000 by omega)) (by decide))
      exact op_rep pins s σ H _ _ v u Q I rx ry ⟨a, k, xs, rfl, rfl, t1, by omega, by omega, hb, fun p hp => q _ _ (Ext.new hp) (newKeep hp) (RV.newLst (q1.flat _) hp tr)⟩
    · cases hg
  · cases hg
end
end Mir

/-! Mir4: more operators; comparisons; truth; subscripts and slices. -/
namespace Mir
open PySem PySem.Spec PyProof.Rows L2
section
variable {X : Cx} {T : List (Addr × Str)}
theorem wide_fdiv : OpR X (binaryOp .FloorDiv) (rI (fun _ j => 0 < j ∧ j.natAbs.log2 < 9000) fun i j => .int (i / j)) := op_fdivW
theorem o_fdiv : OpR X (binaryOp .FloorDiv) (rG (gOf X T) fdivG) := by
  intro pins s σ H vx vy v u Q I rx ry ⟨x, y, z, e, m, hg, tr, r1, r2, q⟩
  unfold fdivG at hg
  split at hg
  · split at hg
    · rename_i i j hc
      cases hg
      cases r1.int
      cases r2.int
      exact wide_fdiv pins s σ H _ _ v u Q I rx ry ⟨i, j, rfl, rfl, hc, q _ _ Ext.refl (noKeep rfl) (.int _)⟩
    · cases hg
  · cases hg
theorem o_mod : OpR X (binaryOp .Mod) (rG (gOf X T) modG) := by
  intro pins s σ H vx vy v u Q I rx ry ⟨x, y, z, e, m, hg, tr, r1, r2, q⟩
  unfold modG at hg
  split at hg
  · split at hg
    · rename_i i j hc
      cases hg
      cases r1.int
      cases r2.int
      exact op_mod pins s σ H _ _ v u Q I rx ry ⟨i, j, rfl, rfl, hc, q _ _ Ext.refl (noKeep rfl) (.int _)⟩
    · cases hg
  · cases hg
theorem o_pow : OpR X (binaryOp .Pow) (rG (gOf X T) powG) := by
  intro pins s σ H vx vy v u Q I rx ry ⟨x, y, z, e, m, hg, tr, r1, r2, q⟩
  unfold powG at hg
  split at hg
  · split at hg
    · rename_i i j hc
      cases hg
      cases r1.int
      cases r2.int
      exact op_pow pins s σ H _ _ v u Q I rx ry ⟨i, j, rfl, rfl, hc, q _ _ Ext.refl (noKeep rfl) (.int _)⟩
    · cases hg
  · cases hg
theorem o_neg : UnR X (unaryOp .USub) (rG1 (gOf X T) negG) := by
  intro pins s σ H vx v Q I rx ⟨x, z, e, m, hg, tr, r1, q⟩
  unfold negG at hg
  split at hg
  · rename_i i
    cases hg
    cases r1.int
    exact un_neg pins s σ H _ v Q I rx ⟨i, rfl, q _ _ Ext.refl (noKeep rfl) (.int _)⟩
  · cases hg
theorem o_lt : OpR X (compareOp .Lt) (rG (gOf X T) ltG) := by
  intro pins s σ H vx vy v u Q I rx ry ⟨x, y, z, e, m, hg, tr, r1, r2, q⟩
  unfold ltG at hg
  split at hg
  · rename_i i j
    cases hg
    cases r1.int
    cases r2.int
    exact op_lt pins s σ H _ _ v u Q I rx ry ⟨i, j, rfl, rfl, q _ _ Ext.refl (noKeep rfl) (.bl _)⟩
  · rename_i i j
    cases hg
    cases r1.str
    cases r2.str
    exact op_lt_str pins s σ H _ _ v u Q I rx ry ⟨i, j, rfl, rfl, q _ _ Ext.refl (noKeep rfl) (.bl _)⟩
  · cases hg
theorem o_le : OpR X (compareOp .LtE) (rG (gOf X T) leG) := by
  intro pins s σ H vx vy v u Q I rx ry ⟨x, y, z, e, m, hg, tr, r1, r2, q⟩
  unfold leG at hg
  split at hg
  · rename_i i j
    cases hg
    cases r1.int
    cases r2.int
    exact op_le pins s σ H _ _ v u Q I rx ry ⟨i, j, rfl, rfl, q _ _ Ext.refl (noKeep rfl) (.bl _)⟩
  · cases hg
theorem o_gt : OpR X (compareOp .Gt) (rG (gOf X T) gtG) := by
  intro pins s σ H vx vy v u Q I rx ry ⟨x, y, z, e, m, hg, tr, r1, r2, q⟩
  unfold gtG at hg
  split at hg
  · rename_i i j
    cases hg
    cases r1.int
    cases r2.int
    exact op_gt pins s σ H _ _ v u Q I rx ry ⟨i, j, rfl, rfl, q _ _ Ext.refl (noKeep rfl) (.bl _)⟩
  · cases hg
theorem o_ge : OpR X (compareOp .GtE) (rG (gOf X T) geG) := by
  intro pins s σ H vx vy v u Q I rx ry ⟨x, y, z, e, m, hg, tr, r1, r2, q⟩
  unfold geG at hg
  split at hg
  · rename_i i j
    cases hg
    cases r1.int
    cases r2.int
    exact op_ge pins s σ H _ _ v u Q I rx ry ⟨i, j, rfl, rfl, q _ _ Ext.refl (noKeep rfl) (.bl _)⟩
  · cases hg
theorem o_eq (hu : X.A.units + 64 < cLine) : OpR X (compareOp .Eq) (rG (gOf X T) eqG) := by
  intro pins s σ H vx vy v u Q I rx ry ⟨x, y, z, e, m, hg, tr, r1, r2, q⟩
  unfold eqG at hg
  split at hg
  · rename_i hs
    cases hg
    have hs := Bool.and_eq_true_iff.mp hs
    exact op_eqD hu pins s σ H _ _ v u Q I rx ry ⟨x.P, y.P, r1.dp hs.1, r2.dp hs.2, hs.1, hs.2, q _ _ Ext.refl (noKeep rfl) (.bl _)⟩
  · cases hg
theorem o_ne (hu : X.A.units + 64 < cLine) : OpR X (compareOp .NotEq) (rG (gOf X T) neG) := by
  intro pins s σ H vx vy v u Q I rx ry ⟨x, y, z, e, m, hg, tr, r1, r2, q⟩
  unfold neG at hg
  split at hg
  · rename_i hs
    cases hg
    have hs := Bool.and_eq_true_iff.mp hs
    exact op_neD hu pins s σ H _ _ v u Q I rx ry ⟨x.P, y.P, r1.dp hs.1, r2.dp hs.2, hs.1, hs.2, q _ _ Ext.refl (noKeep rfl) (.bl _)⟩
  · cases hg
theorem RT.isn {G : Gc} {e : List Addr} {H : Hp} {d : D} {v : V} (r : RT G e H d v) : decide (v = V.non) = isNon d := by
  cases r with
  | of r => cases r <;> rfl
  | lst h r => rfl
  | dic h q r => rfl
theorem is_bb : OpR X (compareOp .Is) (fun x y H Q => ∃ a b : Bool, x = .bl a ∧ y = .bl b ∧ Q (.bl (a == b)) H) := by
  intro pins s σ H x y v u Q I rx ry h
  obtain ⟨a, b, rfl, rfl, q⟩ := h
  cases (show v = Value.bool a from rx)
  cases (show u = Value.bool b from ry)
  by_cases e : a = b
  · subst e
    exact wpAny_is_self rfl ⟨.bl true, H, I, rfl, by simpa using q⟩
  · exact wpAny_is_other rfl (fun z => e (Value.bool.inj z)) ⟨.bl false, H, I, rfl, by rw [beq_eq_false_iff_ne.mpr e] at q; exact q⟩
theorem isnot_bb : OpR X (compareOp .IsNot) (fun x y H Q => ∃ a b : Bool, x = .bl a ∧ y = .bl b ∧ Q (.bl (!(a == b))) H) := by
  intro pins s σ H x y v u Q I rx ry h
  obtain ⟨a, b, rfl, rfl, q⟩ := h
  cases (show v = Value.bool a from rx)
  cases (show u = Value.bool b from ry)
  by_cases e : a = b
  · subst e
    exact wpAny_isNot_self rfl ⟨.bl false, H, I, rfl, by simpa using q⟩
  · exact wpAny_isNot_other rfl (fun z => e (Value.bool.inj z)) ⟨.bl true, H, I, rfl, by rw [beq_eq_false_iff_ne.mpr e] at q; exact q⟩
theorem o_is : OpR X (compareOp .Is) (rG (gOf X T) isG) := by
  intro pins s σ H vx vy v u Q I rx ry ⟨x, y, z, e, m, hg, tr, r1, r2, q⟩
  unfold isG at hg
  split at hg
  · cases hg
    cases r2.non
    exact op_isN pins s σ H _ _ v u Q I rx ry ⟨rfl, q _ _ Ext.refl (noKeep rfl) (by rw [r1.isn]; exact .bl _)⟩
  · cases hg
    cases r1.bl
    cases r2.bl
    exact is_bb pins s σ H _ _ v u Q I rx ry ⟨_, _, rfl, rfl, q _ _ Ext.refl (noKeep rfl) (.bl _)⟩
  · cases hg
theorem o_isnot : OpR X (compareOp .IsNot) (rG (gOf X T) isNotG) := by
  intro pins s σ H vx vy v u Q I rx ry ⟨x, y, z, e, m, hg, tr, r1, r2, q⟩
  unfold isNotG at hg
  split at hg
  · cases hg
    cases r2.non
    exact op_notN pins s σ H _ _ v u Q I rx ry ⟨rfl, q _ _ Ext.refl (noKeep rfl) (by rw [r1.isn]; exact .bl _)⟩
  · cases hg
    cases r1.bl
    cases r2.bl
    exact isnot_bb pins s σ H _ _ v u Q I rx ry ⟨_, _, rfl, rfl, q _ _ Ext.refl (noKeep rfl) (.bl _)⟩
  · cases hg

/-! ### keys -/
end
mutual
def toN : D → Option NestedKey
  | .non => some .none
  | .bl b => some (.num (if b = true then 1 else 0))
  | .int i => some (.num i)
  | .str x => some (.text x)
  | .tup xs => (toNs xs).map .tup
  | _ => none
def toNs : List D → Option (List NestedKey)
  | [] => some []
  | d :: ds => match toN d, toNs ds with
    | some k, some ks => some (k :: ks)
    | _, _ => none
end
section
variable {G : Gc} {e : List Addr} {H : Hp}
mutual
theorem RV.rn : ∀ {d : D} {v : V} {k : NestedKey}, RV G e H d v → toN d = some k → RN G H k v
  | _, _, _, .non, h => by cases h; exact .none
  | _, _, _, .bl b, h => by cases h; exact .bl b
  | _, _, _, .int i, h => by cases h; exact .num i
  | _, _, _, .str x, h => by cases h; exact .text x
  | _, _, _, .tup h r, q => by
    simp only [toN, Option.map_eq_some_iff] at q
    obtain ⟨ks, q, rfl⟩ := q
    exact .tup h (RVs.rns r q)
  | _, _, _, .lst _ _ _, h => by cases h
  | _, _, _, .dic _ _ _ _, h => by cases h
  | _, _, _, .scr _, h => by cases h
  | _, _, _, .obj _ _, h => by cases h
theorem RVs.rns : ∀ {ds : List D} {vs : List V} {ks : List NestedKey}, RVs G e H ds vs → toNs ds = some ks → RNs G H ks vs
  | _, _, _, .nil, h => by cases h; exact .nil
  | _, _, _, .cons r t, h => by
    unfold toNs at h
    split at h
    · rename_i k ks h1 h2
      cases h
      exact .cons (RV.rn r h1) (RVs.rns t h2)
    · cases h
end
theorem RT.rn {d : D} {v : V} {k : NestedKey} (r : RT G e H d v) (h : toN d = some k) : RN G H k v := by
  cases r with
  | of r => exact r.rn h
  | lst _ _ => cases h
  | dic _ _ _ => cases h
end
def dget : List NestedKey → List D → NestedKey → Option D
  | k :: ks, v :: vs, x => if k = x then some v else dget ks vs x
  | _, _, _ => none
def inG : D → D → Option D
  | x, .lst ys => if sh x && sh (.lst ys) then some (.bl (ys.any fun z => eqD z x)) else none
  | x, .tup ys => if sh x && sh (.tup ys) then some (.bl (ys.any fun z => eqD z x)) else none
  | .str x, .str y => match x.cps.toList with
    | [c] => some (.bl (decide (c ∈ y.cps.toList)))
    | _ => none
  | .int i, .dic false ks vs => some (.bl (decide (NestedKey.num i ∈ ks)))
  | .str x, .dic false ks vs => some (.bl (decide (NestedKey.text x ∈ ks)))
  | .tup xs, .dic true ks vs => match toN (.tup xs) with
    | some k => if k.depth ≤ 8 then some (.bl (decide (k ∈ ks))) else none
    | none => none
  | _, _ => none
def notInG : D → D → Option D
  | x, .lst ys => if sh x && sh (.lst ys) then some (.bl (!(ys.any fun z => eqD z x))) else none
  | x, .tup ys => if sh x && sh (.tup ys) then some (.bl (!(ys.any fun z => eqD z x))) else none
  | .str x, .str y => match x.cps.toList with
    | [c] => some (.bl (!decide (c ∈ y.cps.toList)))
    | _ => none
  | .int i, .dic false ks vs => some (.bl (!decide (NestedKey.num i ∈ ks)))
  | .str x, .dic false ks vs => some (.bl (!decide (NestedKey.text x ∈ ks)))
  | .tup xs, .dic true ks vs => match toN (.tup xs) with
    | some k => if k.depth ≤ 8 then some (.bl (!decide (k ∈ ks))) else none
    | none => none
  | _, _ => none
theorem Ps_any (x : D) : ∀ ys : List D, ((Ps ys).any fun z => PyData.eqv z x.P) = ys.any fun z => eqD z x
  | [] => rfl
  | y :: ys => by simp only [Ps, List.any_cons, Ps_any x ys]; rfl

section
variable {X : Cx} {T : List (Addr × Str)} {pins : List (Addr × Obj)} {s : Shared} {σ : St} {H : Hp}
mutual
theorem RN.nested (I : Inv X pins σ H s) : ∀ (k : NestedKey) (v : V) (u : Value), RN (gOf X T) H k v → RelV v u → NestedIs s.heap k u
  | .none, _, _, h, r => by cases h; cases r; exact .none
  | .num i, _, _, h, r => by
    cases h with
    | bl b => cases r; exact .bool rfl
    | num i => obtain ⟨t, rfl⟩ := r; exact .int i t
  | .text x, _, _, h, r => by cases h; obtain ⟨t, rfl⟩ := r; exact .text x t
  | .tup ks, _, _, h, r => by
    cases h with
    | tup h q =>
      cases r
      obtain ⟨its, rv, ⟨o, ho, hc, n, hd⟩, _⟩ := I.tuple h
      exact .tup ho hc hd (RNs.nested I ks _ _ q rv)
theorem RNs.nested (I : Inv X pins σ H s) : ∀ (ks : List NestedKey) (vs : List V) (us : List Value), RNs (gOf X T) H ks vs → Vals vs us → NestedAll s.heap ks us
  | [], _, _, h, r => by cases h; cases r; exact .nil
  | k :: ks, _, _, h, r => by
    cases h with
    | cons h1 h2 => cases r with
      | cons r1 r2 => exact .cons (RN.nested I k _ _ h1 r1) (RNs.nested I ks _ _ h2 r2)
end
abbrev PT3 : List (NestedKey × Addr × V) → List (NestedKey × Addr × Value) → Prop :=
  Paired (fun (p : NestedKey × Addr × V) (q : NestedKey × Addr × Value) => p.1 = q.1 ∧ p.2.1 = q.2.1 ∧ RelV p.2.2 q.2.2)
theorem dicN_at {a : Addr} {ts : List (NestedKey × Addr × V)} (I : Inv X pins σ H s) (h : H a = some (dicN X.prog X.w a ts)) (hk : ∀ t ∈ ts, RN (gOf X T) H t.1 (.ref t.2.1) ∧ t.1.depth ≤ 8) :
    ts.length ≤ sizeLine ∧ (a == sysModules) = false ∧ ∃ us, PT3 ts us ∧ s.heap.DictOfH (nestedKind X.prog X.w) a us := by
  obtain ⟨⟨h1, h2, us, h3, o, es, ep, h4, h5, h6, h7, h8⟩, _⟩ := (show ObjOk X.prog X.w H s.heap a (dicN X.prog X.w a ts) from I.hok a _ h)
  refine ⟨h1, h2, us, h3, o, es, ep, h4, h5, h6, h7, ?_, h8⟩
  have all : ∀ {l : List (NestedKey × Addr × V)} {m : List (NestedKey × Addr × Value)}, PT3 l m → (∀ t ∈ l, RN (gOf X T) H t.1 (.ref t.2.1) ∧ t.1.depth ≤ 8) → ∀ x ∈ m, (nestedKind X.prog X.w).is s.heap x.1 x.2.1 := by
    intro l m q
    induction q with
    | nil => intro _ x hx; cases hx
    | @cons p q ps qs hq t ih =>
      intro hl x hx
      rcases List.mem_cons.mp hx with e | hx
      · subst e
        obtain ⟨r, d⟩ := hl p List.mem_cons_self
        rw [← hq.1, ← hq.2.1]
        exact ⟨RN.nested I _ _ _ r rfl, d⟩
      · exact ih (fun t ht => hl t (List.mem_cons_of_mem _ ht)) x hx
  exact all h3 hk
/-- what a dict of tuple keys has at a key -/
theorem atKey_get {G : Gc} {e : List Addr} {H : Hp} (k : NestedKey) : ∀ {ts : List (NestedKey × Addr × V)} {us : List (NestedKey × Addr × Value)} {ds : List D}, PT3 ts us → RVs G e H ds (ts.map (·.2.2)) →
    (∀ d, dget (ts.map (·.1)) ds k = some d → ∃ p v, atKey us k = some p ∧ RelV v p.2 ∧ RV G e H d v) ∧ (atKey us k).isSome = decide (k ∈ ts.map (·.1))
  | _, _, ds, .nil, r => by
    cases r
    exact ⟨fun d h => (by simp [dget] at h), by simp [atKey]⟩
  | p :: ts, q :: us, ds, .cons h t, r => by
    cases r with
    | @cons d v ds vs r1 r2 =>
      obtain ⟨i1, i2⟩ := atKey_get k t r2
      by_cases e1 : p.1 = k
      · have e2 : q.1 = k := h.1.symm.trans e1
        refine ⟨fun d' hd => ?_, ?_⟩
        · simp only [List.map_cons, dget, e1, if_true, Option.some.injEq] at hd
          subst hd
          exact ⟨q.2, p.2.2, by simp [atKey, e2], h.2.2, r1⟩
        · simp [atKey, e2, e1]
      · have e2 : ¬ q.1 = k := fun z => e1 (h.1.trans z)
        have e3 : atKey (q :: us) k = atKey us k := by simp [atKey, List.find?_cons, e2]
        refine ⟨fun d' hd => ?_, ?_⟩
        · simp only [List.map_cons, dget, e1, if_false] at hd
          rw [e3]
          exact i1 d' hd
        · rw [e3, i2]
          have : ¬ k = p.1 := fun z => e1 z.symm
          simp [this]
theorem kN_inj {a b : Key} (h : kN a = kN b) : a = b := by
  cases a <;> cases b <;> cases h <;> rfl
theorem valV_get {G : Gc} {e : List Addr} {H : Hp} (k : Key) : ∀ {kk : List Key} {xs : List V} {ds : List D}, kk.length = xs.length → RVs G e H ds xs →
    (∀ d, dget (kk.map kN) ds (kN k) = some d → ∃ v, valV (kk.zip xs) k = some v ∧ RV G e H d v) ∧ (valV (kk.zip xs) k).isSome = decide (kN k ∈ kk.map kN)
  | [], _, ds, _, r => ⟨fun d h => (by simp [dget] at h), by simp [valV]⟩
  | j :: kk, _, ds, hl, r => by
    cases r with
    | nil => simp at hl
    | @cons d v ds vs r1 r2 =>
      obtain ⟨i1, i2⟩ := valV_get k (kk := kk) (by simpa using hl) r2
      by_cases e1 : j = k
      · subst e1
        refine ⟨fun d' hd => ?_, ?_⟩
        · simp only [List.map_cons, dget, if_true, Option.some.injEq] at hd
          subst hd
          exact ⟨v, by rw [List.zip_cons_cons, valV_pos rfl], r1⟩
        · rw [List.zip_cons_cons, valV_pos rfl]; simp
      · have e2 : ¬ kN j = kN k := fun z => e1 (kN_inj z)
        refine ⟨fun d' hd => ?_, ?_⟩
        · simp only [List.map_cons, dget, e2, if_false] at hd
          rw [List.zip_cons_cons, valV_neg e1]
          exact i1 d' hd
        · rw [List.zip_cons_cons, valV_neg e1, i2]
          have : ¬ kN k = kN j := fun z => e2 z.symm
          simp [this]

theorem o_in (hu : X.A.units + 65 < cLine) : OpR X (compareOp .In) (rG (gOf X T) inG) := by
  intro pins s σ H vx vy v u Q I rx ry ⟨x, y, z, e, m, hg, tr, r1, r2, q⟩
  unfold inG at hg
  split at hg
  · rename_i ys
    split at hg
    · rename_i hs
      cases hg
      have hs := Bool.and_eq_true_iff.mp hs
      exact op_inD hu pins s σ H _ _ v u Q I rx ry ⟨x.P, Ps ys, r1.dp hs.1, r2.dp hs.2, hs.1, hs.2, by rw [Ps_any]; exact q _ _ Ext.refl (noKeep rfl) (.bl _)⟩
    · cases hg
  · rename_i ys
    split at hg
    · rename_i hs
      cases hg
      have hs := Bool.and_eq_true_iff.mp hs
      obtain ⟨as, q1⟩ := Dp.reads I _ _ v (r1.dp hs.1) rx
      obtain ⟨bs, q2⟩ := Dp.reads I _ _ u (r2.dp hs.2) ry
      exact SeqAt.in_tuple_reads q2 q1 (SeqAt.canLay_of_shaped hs.2) (SeqAt.canLay_of_shaped hs.1) (room_in_shaped hs.1 hu) ⟨.bl _, H, I, rfl, by rw [Ps_any]; exact q _ _ Ext.refl (noKeep rfl) (.bl _)⟩
    · cases hg
  · rename_i x y
    split at hg
    · rename_i c hc
      cases hg
      cases r1.str
      cases r2.str
      refine op_in_sign pins s σ H _ _ v u Q I rx ry ⟨c, y, ?_, rfl, q _ _ Ext.refl (noKeep rfl) (.bl _)⟩
      rw [show x = ⟨#[c]⟩ from by cases x; simp only at hc; congr; simpa using congrArg List.toArray hc]
    · cases hg
  · rename_i i ks vs
    cases hg
    cases r1.int
    obtain ⟨a, o, xs, rfl, h1, h2, h3⟩ := r2.dic'
    cases h2 with
    | k kk xs hl =>
      cases ry
      exact d_in (by omega) I (DGet.k (k := .inl i) h1) rx fun s' I' => ⟨.bl _, H, I', rfl, by
        rw [(valV_get (.inl i) hl h3).2]
        exact q _ _ Ext.refl (noKeep rfl) (.bl _)⟩
  · rename_i i ks vs
    cases hg
    cases r1.str
    obtain ⟨a, o, xs, rfl, h1, h2, h3⟩ := r2.dic'
    cases h2 with
    | k kk xs hl =>
      cases ry
      exact d_in (by omega) I (DGet.k (k := .inr i) h1) rx fun s' I' => ⟨.bl _, H, I', rfl, by
        rw [(valV_get (.inr i) hl h3).2]
        exact q _ _ Ext.refl (noKeep rfl) (.bl _)⟩
  · rename_i ds ks vs
    split at hg
    · rename_i k hk
      split at hg
      · rename_i hd
        cases hg
        obtain ⟨a, o, xs, rfl, h1, h2, h3⟩ := r2.dic'
        obtain ⟨p, ps, rfl, t1, t2⟩ := r1.tup
        cases h2 with
        | n ts hts =>
          cases ry
          cases rx
          obtain ⟨z1, z2, us, z3, z4⟩ := dicN_at I h1 hts
          refine wpAny_in_heap (knd := nestedKind X.prog X.w) (k := k) (show X.A.units + 1 + 8 < cLine by omega) ⟨RN.nested I _ _ _ (r1.rn hk) rfl, hd⟩ z2 z4 ?_
          rw [(atKey_get k z3 h3).2]
          exact ⟨.bl _, H, I.tok _, rfl, q _ _ Ext.refl (noKeep rfl) (.bl _)⟩
      · cases hg
    · cases hg
  · cases hg
theorem o_notIn (hu : X.A.units + 65 < cLine) : OpR X (compareOp .NotIn) (rG (gOf X T) notInG) := by
  intro pins s σ H vx vy v u Q I rx ry ⟨x, y, z, e, m, hg, tr, r1, r2, q⟩
  unfold notInG at hg
  split at hg
  · rename_i ys
    split at hg
    · rename_i hs
      cases hg
      have hs := Bool.and_eq_true_iff.mp hs
      exact op_notInD hu pins s σ H _ _ v u Q I rx ry ⟨x.P, Ps ys, r1.dp hs.1, r2.dp hs.2, hs.1, hs.2, by rw [Ps_any]; exact q _ _ Ext.refl (noKeep rfl) (.bl _)⟩
    · cases hg
  · rename_i ys
    split at hg
    · rename_i hs
      cases hg
      have hs := Bool.and_eq_true_iff.mp hs
      obtain ⟨as, q1⟩ := Dp.reads I _ _ v (r1.dp hs.1) rx
      obtain ⟨bs, q2⟩ := Dp.reads I _ _ u (r2.dp hs.2) ry
      exact SeqAt.notIn_tuple_reads q2 q1 (SeqAt.canLay_of_shaped hs.2) (SeqAt.canLay_of_shaped hs.1) (room_in_shaped hs.1 hu) ⟨.bl _, H, I, rfl, by rw [Ps_any]; exact q _ _ Ext.refl (noKeep rfl) (.bl _)⟩
    · cases hg
  · rename_i x y
    split at hg
    · rename_i c hc
      cases hg
      cases r1.str
      cases r2.str
      refine op_notIn_sign pins s σ H _ _ v u Q I rx ry ⟨c, y, ?_, rfl, q _ _ Ext.refl (noKeep rfl) (.bl _)⟩
      rw [show x = ⟨#[c]⟩ from by cases x; simp only at hc; congr; simpa using congrArg List.toArray hc]
    · cases hg
  · rename_i i ks vs
    cases hg
    cases r1.int
    obtain ⟨a, o, xs, rfl, h1, h2, h3⟩ := r2.dic'
    cases h2 with
    | k kk xs hl =>
      cases ry
      exact d_notIn (by omega) I (DGet.k (k := .inl i) h1) rx fun s' I' => ⟨.bl _, H, I', rfl, by
        rw [(valV_get (.inl i) hl h3).2]
        exact q _ _ Ext.refl (noKeep rfl) (.bl _)⟩
  · rename_i i ks vs
    cases hg
    cases r1.str
    obtain ⟨a, o, xs, rfl, h1, h2, h3⟩ := r2.dic'
    cases h2 with
    | k kk xs hl =>
      cases ry
      exact d_notIn (by omega) I (DGet.k (k := .inr i) h1) rx fun s' I' => ⟨.bl _, H, I', rfl, by
        rw [(valV_get (.inr i) hl h3).2]
        exact q _ _ Ext.refl (noKeep rfl) (.bl _)⟩
  · rename_i ds ks vs
    split at hg
    · rename_i k hk
      split at hg
      · rename_i hd
        cases hg
        obtain ⟨a, o, xs, rfl, h1, h2, h3⟩ := r2.dic'
        obtain ⟨p, ps, rfl, t1, t2⟩ := r1.tup
        cases h2 with
        | n ts hts =>
          cases ry
          cases rx
          obtain ⟨z1, z2, us, z3, z4⟩ := dicN_at I h1 hts
          refine wpAny_notIn_heap (knd := nestedKind X.prog X.w) (k := k) (show X.A.units + 1 + 8 < cLine by omega) ⟨RN.nested I _ _ _ (r1.rn hk) rfl, hd⟩ z2 z4 ?_
          rw [(atKey_get k z3 h3).2]
          exact ⟨.bl _, H, I.tok _, rfl, q _ _ Ext.refl (noKeep rfl) (.bl _)⟩
      · cases hg
    · cases hg
  · cases hg
end
end Mir

/-! Mir5: subscripts, slices, and, or, not, if-else, chains. -/
namespace Mir
open PySem PySem.Spec PyProof.Rows L2

def ixG : D → D → Option D
  | .lst xs, .int i => atI xs i
  | .tup xs, .int i => atI xs i
  | .str z, .int i => if z.length ≤ big then (atI z.cps.toList i).map fun c => .str ⟨#[c]⟩ else none
  | .dic false ks vs, .int i => dget ks vs (.num i)
  | .dic false ks vs, .str x => dget ks vs (.text x)
  | .dic true ks vs, .tup xs => match toN (.tup xs) with
    | some k => if k.depth ≤ 8 then dget ks vs k else none
    | none => none
  | _, _ => none
theorem RVs.atI {G : Gc} {e : List Addr} {H : Hp} {ds : List D} {vs : List V} {i : Int} {d : D} (r : RVs G e H ds vs) (h : L2.atI ds i = some d) : ∃ v, L2.atI vs i = some v ∧ RV G e H d v := by
  unfold L2.atI at h ⊢
  rw [← r.len]
  cases q : ixN ds.length i with
  | none => rw [q] at h; cases h
  | some j =>
    rw [q] at h
    simp only [Option.bind_some] at h ⊢
    exact r.get h
section
variable {X : Cx} {T : List (Addr × Str)} {W : WX}
theorem o_ix (hu : X.A.units + 65 < cLine) : IxR X (rG (gOf X T) ixG) := by
  intro value slice pins s σ H vx vy v u Q I rx ry ⟨x, y, z, e, m, hg, tr, r1, r2, q⟩ hs
  unfold ixG at hg
  split at hg
  · rename_i xs i
    cases r2.int
    obtain ⟨a, vs, rfl, h1, h2⟩ := r1.lst'
    obtain ⟨w, h3, h4⟩ := h2.atI hg
    exact ix_list value slice pins s σ H _ _ v u Q I rx ry ⟨a, vs, i, w, rfl, rfl, .of h1, h3, q _ _ Ext.refl (noKeep rfl) h4⟩ hs
  · rename_i xs i
    cases r2.int
    obtain ⟨a, vs, rfl, h1, h2⟩ := r1.tup
    obtain ⟨w, h3, h4⟩ := h2.atI hg
    exact ix_tup value slice pins s σ H _ _ v u Q I rx ry ⟨a, vs, i, w, rfl, rfl, h1, h3, q _ _ Ext.refl (noKeep rfl) h4⟩ hs
  · rename_i xs i
    split at hg
    · rename_i hl
      cases r2.int
      cases r1.str
      simp only [Option.map_eq_some_iff] at hg
      obtain ⟨c, hc, rfl⟩ := hg
      exact ix_str value slice pins s σ H _ _ v u Q I rx ry ⟨xs, i, c, rfl, rfl, big_ok hl, hc, q _ _ Ext.refl (noKeep rfl) (.str _)⟩ hs
    · cases hg
  · rename_i ks ds i
    cases r2.int
    obtain ⟨a, o, xs, rfl, h1, h2, h3⟩ := r1.dic'
    cases h2 with
    | k kk xs hl =>
      cases rx
      obtain ⟨w, h4, h5⟩ := (valV_get (.inl i) hl h3).1 z hg
      have g : DGet H a (kV (.inl i)) (some w) := h4 ▸ DGet.k (k := .inl i) h1
      exact tail_any (dict_typeIs I g) PySem.F.slot_dict_getitem.lookup (d_getItem (by omega) I g ry fun w' s' I' r' => ⟨w, H, I', r', q _ _ Ext.refl (noKeep rfl) h5⟩) hs
  · rename_i ks ds i
    cases r2.str
    obtain ⟨a, o, xs, rfl, h1, h2, h3⟩ := r1.dic'
    cases h2 with
    | k kk xs hl =>
      cases rx
      obtain ⟨w, h4, h5⟩ := (valV_get (.inr i) hl h3).1 z hg
      have g : DGet H a (kV (.inr i)) (some w) := h4 ▸ DGet.k (k := .inr i) h1
      exact tail_any (dict_typeIs I g) PySem.F.slot_dict_getitem.lookup (d_getItem (by omega) I g ry fun w' s' I' r' => ⟨w, H, I', r', q _ _ Ext.refl (noKeep rfl) h5⟩) hs
  · rename_i ks ds xs
    split at hg
    · rename_i k hk
      split at hg
      · rename_i hd
        obtain ⟨a, o, xs, rfl, h1, h2, h3⟩ := r1.dic'
        obtain ⟨p, ps, rfl, t1, t2⟩ := r2.tup
        cases h2 with
        | n ts hts =>
          cases ry
          cases rx
          obtain ⟨z1, z2, us, z3, z4⟩ := dicN_at I h1 hts
          obtain ⟨p', w, h4, h5, h6⟩ := (atKey_get k z3 h3).1 z hg
          exact tail_any z4.typeIs PySem.F.slot_dict_getitem.lookup (wpAny_getItem_heap (knd := nestedKind X.prog X.w) (k := k) (show X.A.units + 1 + 8 < cLine by omega) ⟨RN.nested I _ _ _ (r2.rn hk) rfl, hd⟩ z4 h4
            ⟨w, H, I.tok _, h5, q _ _ Ext.refl (noKeep rfl) h6⟩) hs
      · cases hg
    · cases hg
  · cases hg
theorem e_ix {a b : Expr} {f1 f2 : ME} {pos : Pos} (hu : X.A.units + 65 < cLine) (ha : PE X a (tE (gOf X T) W f1)) (hb : PE X b (tE (gOf X T) W f2)) (hs : PlainIx b := by intro _ _; rfl) : PE X (.Subscript a b pos) (tE (gOf X T) W (op2M ixG f1 f2)) :=
  pe_mono (pe_ix (o_ix hu) ha hb hs) fun σ H Q h => op2_red (a := fun _ _ _ => True) (b := fun _ _ _ => True) h

/-! ### slices -/
def cutL {α : Type} (xs : List α) (lo hi : Option Int) : List α := (xs.drop (HT.sIx xs.length 0 lo)).take (HT.sIx xs.length xs.length hi - HT.sIx xs.length 0 lo)
def slG : D → Option Int → Option Int → Option D
  | .lst xs, lo, hi => some (.lst (cutL xs lo hi))
  | .tup xs, lo, hi => some (.tup (cutL xs lo hi))
  | .str z, lo, hi => if z.length ≤ big then some (.str (cutS z lo hi)) else none
  | _, _, _ => none
abbrev MO := Env → Sto → O (Option Int)
def noP : MO := fun _ S => .ok none S
def someP (f : ME) : MO := fun ρ S => (f ρ S).bind fun u S1 => match u with
  | .d (.int i) => .ok (some i) S1
  | _ => .un
def slM (f : ME) (lo hi : MO) : ME := fun ρ S => (f ρ S).bind fun u S1 => (lo ρ S1).bind fun l S2 => (hi ρ S2).bind fun h S3 =>
  match rd S3 u with
  | some x => match slG x l h with
    | some z => .ok (.d z) S3
    | none => .un
  | none => .un
def tO (G : Gc) (W : WX) (f : MO) : TO := fun σ H Q => ∃ x m ρ S, Rp G x m H ρ S σ ∧ Post G W x m σ H (f ρ S) fun o _ _ H' => Q o H'
theorem po_mono {e : Option Expr} {t t' : TO} (h : PO X e t) (q : ∀ σ H Q, t' σ H Q → t σ H Q) : PO X e t' := ⟨fun pins s σ H Q I w => h.run pins s σ H Q I (q σ H Q w)⟩
theorem p_none : PO X none (tO (gOf X T) W noP) := po_mono po_none fun σ H Q h => by
  obtain ⟨x, m, ρ, S, p, h⟩ := h
  exact h m H Ext.refl p.sto
theorem p_some {e : Expr} {f : ME} (h : PE X e (tE (gOf X T) W f)) : PO X (some e) (tO (gOf X T) W (someP f)) := po_mono (po_some h) fun σ H Q h => by
  obtain ⟨x, m, ρ, S, p, h⟩ := h
  refine ⟨x, m, ρ, S, p, (Post.bind h).mono fun u S1 m1 H1 E1 R1 ⟨_, _, h1⟩ v rv => ?_⟩
  split at h1
  · cases rv with
    | d r => cases r; exact ⟨_, rfl, h1 m1 H1 Ext.refl R1⟩
  · exact h1.elim
theorem RVs.cut {G : Gc} {e : List Addr} {H : Hp} {ds : List D} {vs : List V} (r : RVs G e H ds vs) (lo hi : Option Int) : RVs G e H (cutL ds lo hi) (cutV vs lo hi) := by
  unfold cutL cutV
  rw [r.len]
  exact (r.drop _).take _
theorem cut_whole {α : Type} {xs : List α} {lo hi : Option Int} (h : HT.sIx xs.length 0 lo = 0 ∧ HT.sIx xs.length xs.length hi = xs.length) : cutL xs lo hi = xs := by
  unfold cutL
  rw [h.1, h.2]
  simp
def rSl (G : Gc) : V → Option Int → Option Int → Hp → VK → Prop := fun vx lo hi H Q => ∃ x z e m, slG x lo hi = some z ∧ (∀ b ∈ e, ∃ o, H b = some o) ∧ RT G e H x vx ∧
  ∀ H' w, Ext G m H m H' → (∀ a ∈ m, H a ≠ none → H' a = H a) → RV G e H' z w → Q w H'
theorem o_sl : SlR X (rSl (gOf X T)) := by
  intro pins s σ H vx v vl vu lo hi sl Q I rx hs pl pu ⟨x, z, e, m, hg, tr, r1, q⟩
  unfold slG at hg
  split at hg
  · cases hg
    obtain ⟨a, xs, rfl, h1, h2⟩ := r1.lst'
    exact sl_list pins s σ H _ v vl vu _ _ sl Q I rx hs pl pu ⟨a, xs, rfl, .of h1, fun p np => q _ _ (Ext.new np) (newKeep np) (RV.newLst (h2.cut _ _) np tr)⟩
  · cases hg
    obtain ⟨a, xs, rfl, h1, h2⟩ := r1.tup
    refine sl_tupA pins s σ H _ v vl vu _ _ sl Q I rx hs pl pu ⟨a, xs, rfl, h1, fun hw => q _ _ Ext.refl (noKeep rfl) ?_, fun _ p np => q _ _ (Ext.new np) (newKeep np) (RV.newTup (h2.cut _ _) np tr)⟩
    rw [← h2.len] at hw
    rw [cut_whole hw]
    exact .tup h1 h2
  · split at hg
    · rename_i hl
      cases hg
      cases r1.str
      exact sl_str pins s σ H _ v vl vu _ _ sl Q I rx hs pl pu ⟨_, rfl, big_ok hl, q _ _ Ext.refl (noKeep rfl) (.str _)⟩
    · cases hg
  · cases hg
theorem e_sl {a : Expr} {lo hi : Option Expr} {f : ME} {fl fh : MO} {pos p2 : Pos} (ha : PE X a (tE (gOf X T) W f)) (hl : PO X lo (tO (gOf X T) W fl)) (hh : PO X hi (tO (gOf X T) W fh)) : PE X (.Subscript a (.Slice lo hi none p2) pos) (tE (gOf X T) W (slM f fl fh)) :=
  pe_mono (pe_slice (o_sl (T := T)) ha hl hh) fun σ H Q h => by
    obtain ⟨x, m, ρ, S, p, h⟩ := h
    refine ⟨x, m, ρ, S, p, (Post.bind h).mono fun u S1 m1 H1 E1 R1 ⟨_, _, h1⟩ v rv => ?_⟩
    refine ⟨x, m1, ρ, S1, p.ext E1 R1, (Post.bind h1).mono fun l S2 m2 H2 E2 R2 ⟨_, _, h2⟩ => ?_⟩
    have p2 := (p.ext E1 R1).ext E2 R2
    refine ⟨x, m2, ρ, S2, p2, (Post.bind h2).mono fun r S3 m3 H3 E3 R3 ⟨_, _, h3⟩ => ?_⟩
    have p3 := p2.ext E3 R3
    split at h3
    · rename_i dx q1
      split at h3
      · rename_i z q3
        exact ⟨dx, z, x ++ m3, m3, q3, p3.trk, ((rv.ext E2).ext E3).rt R3 q1, fun H' w' E4 hs r => h3 m3 H' E4 (R3.stay E4 fun a ha => hs a ha (by obtain ⟨o, q⟩ := R3.live ha; rw [q]; simp)) w' (.d r)⟩
      · exact h3.elim
    · exact h3.elim

/-! ### and, or, not -/
variable {a b c : Expr} {rest : List Expr} {f g k : ME} {tf tg : MT} {pos : Pos}
def andT (f g : MT) : MT := fun ρ S => (f ρ S).bind fun b S1 => if b = true then g ρ S1 else .ok false S1
def orT (f g : MT) : MT := fun ρ S => (f ρ S).bind fun b S1 => if b = true then .ok true S1 else g ρ S1
def notT (f : MT) : MT := fun ρ S => (f ρ S).bind fun b S1 => .ok (!b) S1
def andM (f g : ME) : ME := fun ρ S => (f ρ S).bind fun u S1 => match u with
  | .d (.bl true) => g ρ S1
  | .d (.bl false) => .ok (.d (.bl false)) S1
  | _ => .un
def orM (f g : ME) : ME := fun ρ S => (f ρ S).bind fun u S1 => match u with
  | .d (.bl true) => .ok (.d (.bl true)) S1
  | .d (.bl false) => g ρ S1
  | _ => .un
def notM (f : ME) : ME := fun ρ S => (f ρ S).bind fun u S1 => match u with
  | .d (.bl b) => .ok (.d (.bl (!b))) S1
  | _ => .un
def iteM (t : MT) (f g : ME) : ME := fun ρ S => (t ρ S).bind fun b S1 => if b = true then f ρ S1 else g ρ S1
theorem pw_mono {e : Expr} {t t' : TT} (h : PW X e t) (q : ∀ σ H Q, t' σ H Q → t σ H Q) : PW X e t' := ⟨fun wh pins s σ H Q I w => h.run wh pins s σ H Q I (q σ H Q w)⟩
theorem w_and1 (ha : PT X a (tT (gOf X T) W tf)) : PW X (.BoolOp .And [a] pos) (tT (gOf X T) W tf) := pw_and1 ha
theorem w_or1 (ha : PT X a (tT (gOf X T) W tf)) : PW X (.BoolOp .Or [a] pos) (tT (gOf X T) W tf) := pw_or1 ha
theorem w_and (ha : PT X a (tT (gOf X T) W tf)) (hb : PW X (.BoolOp .And (b :: rest) pos) (tT (gOf X T) W tg)) : PW X (.BoolOp .And (a :: b :: rest) pos) (tT (gOf X T) W (andT tf tg)) := pw_mono (pw_and ha hb) fun σ H Q h => by
  obtain ⟨x, m, ρ, S, p, h⟩ := h
  refine ⟨x, m, ρ, S, p, (Post.bind h).mono fun u S1 m1 H1 E1 R1 ⟨_, _, h1⟩ => ?_⟩
  cases u with
  | true => exact iteT ⟨x, m1, ρ, S1, p.ext E1 R1, by rw [if_pos rfl] at h1; exact h1⟩
  | false => exact iteF (by rw [if_neg Bool.false_ne_true] at h1; exact h1 m1 H1 Ext.refl R1)
theorem w_or (ha : PT X a (tT (gOf X T) W tf)) (hb : PW X (.BoolOp .Or (b :: rest) pos) (tT (gOf X T) W tg)) : PW X (.BoolOp .Or (a :: b :: rest) pos) (tT (gOf X T) W (orT tf tg)) := pw_mono (pw_or ha hb) fun σ H Q h => by
  obtain ⟨x, m, ρ, S, p, h⟩ := h
  refine ⟨x, m, ρ, S, p, (Post.bind h).mono fun u S1 m1 H1 E1 R1 ⟨_, _, h1⟩ => ?_⟩
  cases u with
  | true => exact iteT (by rw [if_pos rfl] at h1; exact h1 m1 H1 Ext.refl R1)
  | false => exact iteF ⟨x, m1, ρ, S1, p.ext E1 R1, by rw [if_neg Bool.false_ne_true] at h1; exact h1⟩
theorem t_not (ha : PT X a (tT (gOf X T) W tf)) : PT X (.UnaryOp .Not a pos) (tT (gOf X T) W (notT tf)) := pt_mono (pt_not ha) fun σ H Q h => by
  obtain ⟨x, m, ρ, S, p, h⟩ := h
  exact ⟨x, m, ρ, S, p, (Post.bind h).mono fun u S1 m1 H1 E1 R1 ⟨_, _, h1⟩ => h1 m1 H1 Ext.refl R1⟩
theorem e_one {op} (h : PE X a (tE (gOf X T) W f)) : PE X (.BoolOp op [a] pos) (tE (gOf X T) W f) := pe_one h
theorem RU.bl {G : Gc} {e m : List Addr} {H : Hp} {b : Bool} {v : V} (r : RU G e m H (.d (.bl b)) v) : v = .bl b := by
  cases r with
  | d r => cases r; rfl
theorem e_and (ha : PE X a (tE (gOf X T) W f)) (hb : PE X (.BoolOp .And (b :: rest) pos) (tE (gOf X T) W g)) : PE X (.BoolOp .And (a :: b :: rest) pos) (tE (gOf X T) W (andM f g)) := pe_mono (pe_and ha hb) fun σ H Q h => by
  obtain ⟨x, m, ρ, S, p, h⟩ := h
  refine ⟨x, m, ρ, S, p, (Post.bind h).mono fun u S1 m1 H1 E1 R1 ⟨_, _, h1⟩ v rv => ?_⟩
  split at h1
  · exact ⟨true, rv.bl, iteT ⟨x, m1, ρ, S1, p.ext E1 R1, h1⟩⟩
  · exact ⟨false, rv.bl, iteF (h1 m1 H1 Ext.refl R1 _ (.d (.bl false)))⟩
  · exact h1.elim
theorem e_or (ha : PE X a (tE (gOf X T) W f)) (hb : PE X (.BoolOp .Or (b :: rest) pos) (tE (gOf X T) W g)) : PE X (.BoolOp .Or (a :: b :: rest) pos) (tE (gOf X T) W (orM f g)) := pe_mono (pe_or ha hb) fun σ H Q h => by
  obtain ⟨x, m, ρ, S, p, h⟩ := h
  refine ⟨x, m, ρ, S, p, (Post.bind h).mono fun u S1 m1 H1 E1 R1 ⟨_, _, h1⟩ v rv => ?_⟩
  split at h1
  · exact ⟨true, rv.bl, iteT (h1 m1 H1 Ext.refl R1 _ (.d (.bl true)))⟩
  · exact ⟨false, rv.bl, iteF ⟨x, m1, ρ, S1, p.ext E1 R1, h1⟩⟩
  · exact h1.elim
theorem e_not (ha : PE X a (tE (gOf X T) W f)) : PE X (.UnaryOp .Not a pos) (tE (gOf X T) W (notM f)) := pe_mono (pe_not ha) fun σ H Q h => by
  obtain ⟨x, m, ρ, S, p, h⟩ := h
  refine ⟨x, m, ρ, S, p, (Post.bind h).mono fun u S1 m1 H1 E1 R1 ⟨_, _, h1⟩ v rv => ?_⟩
  split at h1
  · exact ⟨_, rv.bl, h1 m1 H1 Ext.refl R1 _ (.d (.bl _))⟩
  · exact h1.elim
theorem e_if (hc : PT X c (tT (gOf X T) W tf)) (ha : PE X a (tE (gOf X T) W f)) (hb : PE X b (tE (gOf X T) W g)) : PE X (.IfExp c a b pos) (tE (gOf X T) W (iteM tf f g)) := pe_mono (pe_ifExp hc ha hb) fun σ H Q h => by
  obtain ⟨x, m, ρ, S, p, h⟩ := h
  refine ⟨x, m, ρ, S, p, (Post.bind h).mono fun u S1 m1 H1 E1 R1 ⟨_, _, h1⟩ => ?_⟩
  cases u with
  | true => exact iteT ⟨x, m1, ρ, S1, p.ext E1 R1, by rw [if_pos rfl] at h1; exact h1⟩
  | false => exact iteF ⟨x, m1, ρ, S1, p.ext E1 R1, by rw [if_neg Bool.false_ne_true] at h1; exact h1⟩
/-- a < b < c -/
def chM (o1 o2 : D → D → Option D) (f g k : ME) : ME := fun ρ S => (f ρ S).bind fun u S1 => (g ρ S1).bind fun w S2 => match rd S2 u, rd S2 w with
  | some x, some y => match o1 x y with
    | some (.bl true) => (k ρ S2).bind fun w' S3 => match rd S3 w, rd S3 w' with
      | some y', some z => match o2 y' z with
        | some t => .ok (.d t) S3
        | none => .un
      | _, _ => .un
    | some (.bl false) => .ok (.d (.bl false)) S2
    | _ => .un
  | _, _ => .un
theorem ch_red {o1 o2 : D → D → Option D} {σ : St} {H : Hp} {Q : VK} (h : tE (gOf X T) W (chM o1 o2 f g k) σ H Q) : tChain (rG (gOf X T) o1) (rG (gOf X T) o2) (tE (gOf X T) W f) (tE (gOf X T) W g) (tE (gOf X T) W k) σ H Q := by
  obtain ⟨x, m, ρ, S, p, h⟩ := h
  refine ⟨x, m, ρ, S, p, (Post.bind h).mono fun u S1 m1 H1 E1 R1 ⟨_, _, h1⟩ v rv => ?_⟩
  refine ⟨x, m1, ρ, S1, p.ext E1 R1, (Post.bind h1).mono fun w S2 m2 H2 E2 R2 ⟨_, _, h2⟩ v' rv' => ?_⟩
  have p2 := (p.ext E1 R1).ext E2 R2
  split at h2
  · rename_i dx dy q1 q2
    have go : ∀ H' (E3 : Ext (gOf X T) m2 H2 m2 H'), (∀ a ∈ m2, H2 a ≠ none → H' a = H2 a) → RS (gOf X T) (x ++ m2) m2 H' S2 := fun H' E3 hs => R2.stay E3 fun a ha => hs a ha (by obtain ⟨o, q⟩ := R2.live ha; rw [q]; simp)
    split at h2
    · rename_i q3
      refine ⟨dx, dy, _, x ++ m2, m2, q3, p2.trk, (rv.ext E2).rt R2 q1, rv'.rt R2 q2, fun H' w' E3 hs r => ?_⟩
      cases r
      have R3 := go H' E3 hs
      have p3 := p2.ext E3 R3
      refine ⟨true, rfl, iteT ⟨x, m2, ρ, S2, p3, (Post.bind (Post.shift E3 h2)).mono fun t S4 m4 H4 E4 R4 ⟨_, _, h4⟩ v'' rv'' => ?_⟩⟩
      have p4 := p3.ext E4 R4
      split at h4
      · rename_i dy' dz q4 q5
        split at h4
        · rename_i z q6
          exact ⟨dy', dz, z, x ++ m4, m4, q6, p4.trk, ((rv'.ext E3).ext E4).rt R4 q4, rv''.rt R4 q5, fun H5 w5 E5 hs5 r5 => h4 m4 H5 E5 (R4.stay E5 fun a ha => hs5 a ha (by obtain ⟨o, q⟩ := R4.live ha; rw [q]; simp)) w5 (.d r5)⟩
        · exact h4.elim
      · exact h4.elim
    · rename_i q3
      refine ⟨dx, dy, _, x ++ m2, m2, q3, p2.trk, (rv.ext E2).rt R2 q1, rv'.rt R2 q2, fun H' w' E3 hs r => ?_⟩
      cases r
      exact ⟨false, rfl, iteF (h2 m2 H' E3 (go H' E3 hs) _ (.d (.bl false)))⟩
    · exact h2.elim
  · exact h2.elim
theorem e_ch {op op' : CmpOp} {o1 o2 : D → D → Option D} (ho : OpR X (compareOp op) (rG (gOf X T) o1)) (ho' : OpR X (compareOp op') (rG (gOf X T) o2)) (ha : PE X a (tE (gOf X T) W f)) (hb : PE X b (tE (gOf X T) W g)) (hc : PE X c (tE (gOf X T) W k))
    (hm : lastMarks [op, op'] [b, c] = false := by with_unfolding_all rfl) : PE X (.Compare a [op, op'] [b, c] pos) (tE (gOf X T) W (chM o1 o2 f g k)) := pe_mono (pe_chain ho ho' ha hb hc hm) fun σ H Q h => ch_red h
theorem t_ch {op op' : CmpOp} {o1 o2 : D → D → Option D} (ho : OpR X (compareOp op) (rG (gOf X T) o1)) (ho' : OpR X (compareOp op') (rG (gOf X T) o2)) (ha : PE X a (tE (gOf X T) W f)) (hb : PE X b (tE (gOf X T) W g)) (hc : PE X c (tE (gOf X T) W k))
    (hm : lastMarks [op, op'] [b, c] = false := by with_unfolding_all rfl) : PT X (.Compare a [op, op'] [b, c] pos) (tT (gOf X T) W (tstM (chM o1 o2 f g k))) := pt_mono (pt_chain ho ho' ha hb hc hm) fun σ H Q h => ch_red (tst_red (t := fun _ _ _ => True) h)
end
end Mir

/-! Mir6: defs: what is promised of them, how they are called, how a body's mirror gives the promise. -/
namespace Mir
open PySem PySem.Spec PyProof.Rows L2

/-- what a def makes of its arguments -/
inductive R where
  | ok (d : D) | ex (e : Exn) | un
  deriving Inhabited
/-- .. and of one cell -/
inductive R1 where
  | ok (d : D) (c : Cell) | ex (e : Exn) (c : Cell) | un
  deriving Inhabited
/-- .. a new cell -/
inductive RNw where
  | ok (c : Cell) | ex (e : Exn) | un
  deriving Inhabited

def PR (G : Gc) (x m : List Addr) (H : Hp) (r : R) (Q : VK) (E : XK) : Prop := match r with
  | .ok d => ∀ H' v, Ext G m H m H' → RV G x H' d v → Q v H'
  | .ex e => ∀ H' cls d, Ext G m H m H' → RX G x H' e cls d → E cls d H'
  | .un => False
def sp0 (G : Gc) (n : Nat) (F : List D → R) : Sp := fun vs H Q E => vs.length = n ∧ ∃ x ds, (∀ b ∈ x, Nt H b) ∧ LamX.Tabs G.T H ∧ RVs G x H ds vs ∧ PR G x [] H (F ds) Q E
def sp1 (G : Gc) (n p : Nat) (F : List D → Cell → R1) : Sp := fun vs H Q E => vs.length = n ∧ ∃ x a c o ds, (∀ b ∈ x, Nt H b) ∧ LamX.Tabs G.T H ∧ a ∈ x ∧ vs[p]? = some (.ref a) ∧ H a = some o ∧ RC G x H a c o ∧ RVs G x H ds (vs.eraseIdx p) ∧
  match F ds c with
  | .ok d c' => ∀ H' v o', Ext G [a] H [a] H' → H' a = some o' → RC G x H' a c' o' → RV G x H' d v → Q v H'
  | .ex e c' => ∀ H' o' cls d, Ext G [a] H [a] H' → H' a = some o' → RC G x H' a c' o' → RX G x H' e cls d → E cls d H'
  | .un => False
def spN (G : Gc) (n : Nat) (F : List D → RNw) : Sp := fun vs H Q E => vs.length = n ∧ ∃ x ds, (∀ b ∈ x, Nt H b) ∧ LamX.Tabs G.T H ∧ RVs G x H ds vs ∧
  match F ds with
  | .ok c => ∀ H' p o, Ext G [] H [p] H' → H' p = some o → RC G (x ++ [p]) H' p c o → Q (.ref p) H'
  | .ex e => ∀ H' cls d, Ext G [] H [] H' → RX G x H' e cls d → E cls d H'
  | .un => False

/-- a def that is known by its name -/
structure Kn (G : Gc) (base : Heap) (k : Nat) (x : Str) (sp : Sp) : Prop where
  ex : ∃ f fd ps, FnOk G.P G.w G.K G.mg base (L2.CX G.P G.w) k f fd ps sp ∧ G.mg x = some (.ref f) ∧ PySem.W.keepIn G.K (.ref f) = true ∧ Binds G.K fd ps []
theorem Kn.mono {G : Gc} {base : Heap} {j k : Nat} {x : Str} {sp : Sp} (h : Kn G base j x sp) (hk : j ≤ k) : Kn G base k x sp := by
  obtain ⟨f, fd, ps, a, b, c, d⟩ := h.ex
  exact ⟨f, fd, ps, a.mono hk, b, c, d⟩

theorem nd_ix : ∀ {N : List Addr}, N.Nodup → ∀ {i j : Nat} {x : Addr}, N[i]? = some x → N[j]? = some x → i = j
  | [], _, _, _, _, h, _ => by simp at h
  | a :: N, hn, 0, 0, _, _, _ => rfl
  | a :: N, hn, 0, j + 1, x, h, h' => by
    simp at h h'
    subst h
    exact absurd (List.mem_of_getElem? h') (List.nodup_cons.mp hn).1
  | a :: N, hn, i + 1, 0, x, h, h' => by
    simp at h h'
    subst h'
    exact absurd (List.mem_of_getElem? h) (List.nodup_cons.mp hn).1
  | a :: N, hn, i + 1, j + 1, x, h, h' => by
    simp at h h'
    rw [nd_ix (List.nodup_cons.mp hn).2 h h']
/-! ### weakening -/
section
variable {G : Gc} {e e' x m m' : List Addr} {H H' : Hp}
theorem keep_sub (h : ∀ a, a ∈ e' → a ∈ e) : Keep G e H e' H where
  tup := fun _ _ q => q
  lst := fun _ _ q => q
  lsk := fun _ _ q n => ⟨q, fun z => n (h _ z)⟩
  dic := fun _ _ _ _ _ q n r => ⟨q, fun z => n (h _ z), r⟩
  obj := fun _ _ q n => ⟨q, fun z => n (h _ z)⟩
theorem Ext.of_nil (E : Ext G [] H [] H') : Ext G m H m H' :=
  ⟨fun b o h _ t => E.keep b o h (fun z => by cases z) t, E.tups, E.frzs, E.owns, E.live, ⟨[], by simp, fun _ z => by cases z⟩, E.tab⟩
theorem Ext.of_one {a : Addr} (E : Ext G [a] H [a] H') (ha : a ∈ m) : Ext G m H m H' :=
  ⟨fun b o h hb t => E.keep b o h (fun z => hb (by have : b = a := by simpa using z
                                                   rw [this]; exact ha)) t, E.tups, E.frzs, E.owns, E.live, ⟨[], by simp, fun _ z => by cases z⟩, E.tab⟩
theorem Ext.of_new {a : Addr} (E : Ext G [] H [a] H') (hn : ¬ Nt H a) : Ext G m H (m ++ [a]) H' :=
  ⟨fun b o h _ t => E.keep b o h (fun z => by cases z) t, E.tups, E.frzs, E.owns, E.live, ⟨[a], rfl, fun b hb => by
    have e1 : b = a := by simpa using hb
    rw [e1]
    exact hn⟩, E.tab⟩
/-- what was made is forgotten -/
theorem Ext.drop (E : Ext G m H m' H') : Ext G m H m H' := ⟨E.keep, E.tups, E.frzs, E.owns, E.live, ⟨[], by simp, fun _ z => by cases z⟩, E.tab⟩
theorem RC.notbl {a : Addr} {c : Cell} {o : HO} (r : RC G e H a c o) : ∀ ps, o ≠ .tbl ps := by
  cases r with
  | lst _ => intro ps z; cases z
  | dic q _ => exact q.notbl
  | ins _ _ _ => intro ps z; cases z
theorem RC.keep {a : Addr} {c : Cell} {o : HO} (k : Keep G e H e' H') (ho : ∀ b y, H b = some (.own y) → H' b = some (.own y)) (r : RC G e H a c o) : RC G e' H' a c o := by
  cases r with
  | lst q => exact .lst (q.keep k)
  | dic q1 q => exact .dic (q1.ext fun _ _ z => k.tup _ _ z) (q.keep k)
  | ins g1 g2 q => exact .ins g1 (ho _ _ g2) (q.keep k)
theorem RS.stay0 {S : Sto} (r : RS G (x ++ m) m H S) (E : Ext G [] H [] H') : RS G (x ++ m) m H' S :=
  r.stay E.of_nil fun a ha => by
    obtain ⟨i, hi⟩ := List.getElem?_of_mem ha
    have hl : i < S.length := by rw [← r.len]; exact (List.getElem?_eq_some_iff.mp hi).1
    obtain ⟨o, h1, h2⟩ := r.at' i a _ hi (List.getElem?_eq_getElem hl)
    rw [h1]
    exact E.keep _ _ h1 (fun z => by cases z) h2.notbl
/-- one cell has changed -/
theorem RS.one {S : Sto} {i : Nat} {a : Addr} {c' : Cell} {o' : HO} (r : RS G (x ++ m) m H S) (E : Ext G [a] H [a] H') (hi : m[i]? = some a) (ho : H' a = some o') (hc : RC G (x ++ m) H' a c' o') : RS G (x ++ m) m H' (S.set i c') := by
  have E' : Ext G m H m H' := E.of_one (List.mem_of_getElem? hi)
  refine ⟨by rw [List.length_set]; exact r.len, r.nd, r.ins, fun j b c h1 h2 => ?_⟩
  by_cases hj : i = j
  · subst hj
    rw [hi] at h1; cases h1
    have hl : i < S.length := by
      have := (List.getElem?_eq_some_iff.mp h2).1
      rw [List.length_set] at this; exact this
    rw [List.getElem?_set_self hl] at h2
    cases h2
    exact ⟨o', ho, hc⟩
  · rw [List.getElem?_set_ne hj] at h2
    obtain ⟨o, q1, q2⟩ := r.at' j b c h1 h2
    have hb : b ≠ a := fun z => hj (nd_ix r.nd hi (by rw [← z]; exact h1))
    exact ⟨o, E.keep _ _ q1 (fun z => hb (by simpa using z)) q2.notbl, q2.ext E'⟩
end

/-! ### the call of a def -/
def callM (F : List D → R) (fs : List ME) : ME := fun ρ S => (argsM fs ρ S).bind fun us S1 => match pures us with
  | some ds => match F ds with
    | .ok d => .ok (.d d) S1
    | .ex e => .ex e S1
    | .un => .un
  | none => .un
def callC (p : Nat) (F : List D → Cell → R1) (fs : List ME) : ME := fun ρ S => (argsM fs ρ S).bind fun us S1 => match us[p]?, pures (us.eraseIdx p) with
  | some (.c i), some ds => match S1[i]? with
    | some c => match F ds c with
      | .ok d c' => .ok (.d d) (S1.set i c')
      | .ex e c' => .ex e (S1.set i c')
      | .un => .un
    | none => .un
  | _, _ => .un
def callN (F : List D → RNw) (fs : List ME) : ME := fun ρ S => (argsM fs ρ S).bind fun us S1 => match pures us with
  | some ds => match F ds with
    | .ok c => .ok (.c S1.length) (S1 ++ [c])
    | .ex e => .ex e S1
    | .un => .un
  | none => .un
theorem RUs.get {G : Gc} {e m : List Addr} {H : Hp} : ∀ {ds : List U} {vs : List V} {i : Nat} {d : U}, RUs G e m H ds vs → ds[i]? = some d → ∃ v, vs[i]? = some v ∧ RU G e m H d v
  | _, _, _, _, .nil, h => by simp at h
  | _, _, 0, _, .cons r _, h => by simp at h; subst h; exact ⟨_, rfl, r⟩
  | _, _, i + 1, _, .cons _ t, h => by
    obtain ⟨v, h1, h2⟩ := RUs.get (i := i) t (by simpa using h)
    exact ⟨v, by simpa using h1, h2⟩
theorem RUs.erase {G : Gc} {e m : List Addr} {H : Hp} : ∀ {ds : List U} {vs : List V} (i : Nat), RUs G e m H ds vs → RUs G e m H (ds.eraseIdx i) (vs.eraseIdx i)
  | _, _, _, .nil => by simp; exact .nil
  | _, _, 0, .cons _ t => by simpa using t
  | _, _, i + 1, .cons r t => by
    simp only [List.eraseIdx_cons_succ]
    exact .cons r (RUs.erase i t)
section
variable {X : Cx} {T : List (Addr × Str)} {W : WX} {k n p : Nat} {x : Str} {e : Expr} {es : List Expr} {fs : List ME} {pos px : Pos}
theorem e_call {F : List D → R} (h : Kn (gOf X T) X.base k x (sp0 (gOf X T) n F)) (hr : Room k X.A) (tk : Takes X W) (hn : Nat.beq fs.length n = true := by rfl) (ha : PA X (e :: es) (tA (gOf X T) W (argsM fs))) (hg : Gl X x := by rfl)
    (hdb : (x == ("__debug__" : Str)) = false := by decide) (he : starEach (e :: es) X.env = (false, eval e X.env) :: starEach es X.env := by rfl) (hpl : (backTo pos (starEach es X.env)).any (·.1) = false := by rfl) :
    PE X (.Call (.Name x px) (e :: es) [] pos) (tE (gOf X T) W (callM F fs)) := by
  obtain ⟨f, fd, ps, h1, h2, h3, h4⟩ := h.ex
  refine pe_mono (pe_callS h1 hr hg h2 h3 h4 (fun σ => passAt tk σ) ha hdb he hpl) fun σ H Q h => ?_
  obtain ⟨y, m, ρ, S, q, h⟩ := h
  cases q1 : argsM fs ρ S with
  | un => simp only [callM, q1, O.bind] at h; exact h.elim
  | ex ee S' =>
    refine ⟨y, m, ρ, S, q, ?_⟩
    simp only [callM, q1, O.bind] at h ⊢
    exact h
  | ok us S' =>
    refine ⟨y, m, ρ, S, q, ?_⟩
    rw [q1]
    intro m1 H1 E1 R1 vs rvs
    have p1 := q.ext E1 R1
    simp only [callM, q1, O.bind] at h
    refine ⟨by rw [← RUs.length rvs, argsM_len q1]; exact Nat.eq_of_beq_eq_true hn, ?_⟩
    split at h
    · rename_i ds hds
      refine ⟨y ++ m1, ds, p1.trkN, p1.tab, RUs.pure rvs hds, ?_⟩
      unfold PR
      split
      · rename_i d hd
        rw [hd] at h
        exact fun H' v E2 rv => h m1 H' (E1.trans E2.of_nil) (R1.stay0 E2) v (.d rv)
      · rename_i ee hd
        rw [hd] at h
        exact fun H' cls d E2 rx => h m1 H' cls d (E1.trans E2.of_nil) (R1.stay0 E2) rx
      · rename_i hd
        rw [hd] at h
        exact h
    · exact h.elim
theorem e_callC {F : List D → Cell → R1} (h : Kn (gOf X T) X.base k x (sp1 (gOf X T) n p F)) (hr : Room k X.A) (tk : Takes X W) (hn : Nat.beq fs.length n = true := by rfl) (ha : PA X (e :: es) (tA (gOf X T) W (argsM fs))) (hg : Gl X x := by rfl)
    (hdb : (x == ("__debug__" : Str)) = false := by decide) (he : starEach (e :: es) X.env = (false, eval e X.env) :: starEach es X.env := by rfl) (hpl : (backTo pos (starEach es X.env)).any (·.1) = false := by rfl) :
    PE X (.Call (.Name x px) (e :: es) [] pos) (tE (gOf X T) W (callC p F fs)) := by
  obtain ⟨f, fd, ps, h1, h2, h3, h4⟩ := h.ex
  refine pe_mono (pe_callS h1 hr hg h2 h3 h4 (fun σ => passAt tk σ) ha hdb he hpl) fun σ H Q h => ?_
  obtain ⟨y, m, ρ, S, q, h⟩ := h
  cases q1 : argsM fs ρ S with
  | un => simp only [callC, q1, O.bind] at h; exact h.elim
  | ex ee S' =>
    refine ⟨y, m, ρ, S, q, ?_⟩
    simp only [callC, q1, O.bind] at h ⊢
    exact h
  | ok us S' =>
    refine ⟨y, m, ρ, S, q, ?_⟩
    rw [q1]
    intro m1 H1 E1 R1 vs rvs
    have p1 := q.ext E1 R1
    simp only [callC, q1, O.bind] at h
    refine ⟨by rw [← RUs.length rvs, argsM_len q1]; exact Nat.eq_of_beq_eq_true hn, ?_⟩
    split at h
    · rename_i i ds hp hds
      split at h
      · rename_i c hc
        obtain ⟨v, g1, g2⟩ := RUs.get rvs hp
        cases g2 with
        | @c _ a ha' =>
          obtain ⟨o, o1, o2⟩ := R1.at' i a c ha' hc
          have hm : a ∈ m1 := List.mem_of_getElem? ha'
          refine ⟨y ++ m1, a, c, o, ds, p1.trkN, p1.tab, List.mem_append_right _ hm, g1, o1, o2, RUs.pure (rvs.erase p) hds, ?_⟩
          split
          · rename_i d c' hd
            rw [hd] at h
            exact fun H' v o' E2 ho' rc rv => h m1 H' (E1.trans (E2.of_one hm)) (R1.one E2 ha' ho' rc) v (.d rv)
          · rename_i ee c' hd
            rw [hd] at h
            exact fun H' o' cls d E2 ho' rc rx => h m1 H' cls d (E1.trans (E2.of_one hm)) (R1.one E2 ha' ho' rc) rx
          · rename_i hd
            rw [hd] at h
            exact h
      · exact h.elim
    · exact h.elim
theorem e_callN {F : List D → RNw} (h : Kn (gOf X T) X.base k x (spN (gOf X T) n F)) (hr : Room k X.A) (tk : Takes X W) (hn : Nat.beq fs.length n = true := by rfl) (ha : PA X (e :: es) (tA (gOf X T) W (argsM fs))) (hg : Gl X x := by rfl)
    (hdb : (x == ("__debug__" : Str)) = false := by decide) (he : starEach (e :: es) X.env = (false, eval e X.env) :: starEach es X.env := by rfl) (hpl : (backTo pos (starEach es X.env)).any (·.1) = false := by rfl) :
    PE X (.Call (.Name x px) (e :: es) [] pos) (tE (gOf X T) W (callN F fs)) := by
  obtain ⟨f, fd, ps, h1, h2, h3, h4⟩ := h.ex
  refine pe_mono (pe_callS h1 hr hg h2 h3 h4 (fun σ => passAt tk σ) ha hdb he hpl) fun σ H Q h => ?_
  obtain ⟨y, m, ρ, S, q, h⟩ := h
  cases q1 : argsM fs ρ S with
  | un => simp only [callN, q1, O.bind] at h; exact h.elim
  | ex ee S' =>
    refine ⟨y, m, ρ, S, q, ?_⟩
    simp only [callN, q1, O.bind] at h ⊢
    exact h
  | ok us S' =>
    refine ⟨y, m, ρ, S, q, ?_⟩
    rw [q1]
    intro m1 H1 E1 R1 vs rvs
    have p1 := q.ext E1 R1
    simp only [callN, q1, O.bind] at h
    refine ⟨by rw [← RUs.length rvs, argsM_len q1]; exact Nat.eq_of_beq_eq_true hn, ?_⟩
    split at h
    · rename_i ds hds
      refine ⟨y ++ m1, ds, p1.trkN, p1.tab, RUs.pure rvs hds, ?_⟩
      split
      · rename_i c hd
        rw [hd] at h
        intro H' a o E2 ho rc
        obtain ⟨nw, e2, f2⟩ := E2.pre
        have hn1 : ¬ Nt H1 a := f2 a (by rw [List.nil_append] at e2; rw [← e2]; simp)
        have E3 : Ext (gOf X T) m1 H1 (m1 ++ [a]) H' := E2.of_new hn1
        refine h (m1 ++ [a]) H' (E1.trans E3) ?_ _ (.c (by rw [← R1.len]; simp))
        have nm : a ∉ m1 := fun z => hn1 (R1.nt z)
        refine ⟨by simp [R1.len], List.nodup_append.mpr ⟨R1.nd, by simp, fun b hb c' hc' => ?_⟩, fun b hb => List.mem_append_right _ hb, fun i b c' g1 g2 => ?_⟩
        · have : c' = a := by simpa using hc'
          subst this
          exact fun z => nm (z ▸ hb)
        · by_cases hi : i < m1.length
          · rw [List.getElem?_append_left hi] at g1
            rw [List.getElem?_append_left (by rw [← R1.len]; exact hi)] at g2
            obtain ⟨o', q3, q4⟩ := R1.at' i b c' g1 g2
            exact ⟨o', E2.keep _ _ q3 (fun z => by cases z) q4.notbl, q4.ext E3⟩
          · have e4 : i = m1.length := by
              have := (List.getElem?_eq_some_iff.mp g1).1
              simp at this
              omega
            subst e4
            rw [List.getElem?_append_right (Nat.le_refl _), Nat.sub_self] at g1
            rw [R1.len, List.getElem?_append_right (Nat.le_refl _), Nat.sub_self] at g2
            have e5 : a = b := Option.some.inj g1
            have e6 : c = c' := Option.some.inj g2
            subst e5 e6
            exact ⟨o, ho, by rw [← List.append_assoc]; exact rc⟩
      · rename_i ee hd
        rw [hd] at h
        exact fun H' cls d E2 rx => h m1 H' cls d (E1.trans E2.of_nil) (R1.stay0 E2) rx
      · rename_i hd
        rw [hd] at h
        exact h
    · exact h.elim
end

/-! ### a body's mirror gives the promise -/
def env0 (n : Nat) (us : List U) : Env := us.map some ++ List.replicate (n - us.length) none
def frzC (S : Sto) (i : Nat) : Option D := match S[i]? with
  | some (.lst xs) => some (.lst xs)
  | some (.dic t ks vs) => some (.dic t ks vs)
  | _ => none
def frzW (S : Sto) : List (D ⊕ Nat) → Option (List D)
  | [] => some []
  | .inl d :: us => match frzW S us with
    | some ds => some (d :: ds)
    | none => none
  | .inr i :: us => match frzC S i, frzW S us with
    | some d, some ds => some (d :: ds)
    | _, _ => none
def frz (S : Sto) : U → Option D
  | .d x => some x
  | .c i => match S[i]? with
    | some (.lst xs) => some (.lst xs)
    | some (.dic t ks vs) => some (.dic t ks vs)
    | _ => none
  | .t us => match frzW S us with
    | some ds => some (.tup ds)
    | none => none
def run0 (n : Nat) (f : MS) (ds : List D) : R := match f (env0 n (ds.map .d)) [] with
  | .rt u S => match frz S u with
    | some d => .ok d
    | none => .un
  | .nx _ _ => .ok .non
  | .ex e _ _ => .ex e
  | _ => .un
def ins1 (p : Nat) (ds : List D) : List U := (ds.take p).map .d ++ .c 0 :: (ds.drop p).map .d
def run1 (n p : Nat) (f : MS) (ds : List D) (c : Cell) : R1 := match f (env0 n (ins1 p ds)) [c] with
  | .rt (.d d) (c' :: _) => .ok d c'
  | .rt (.c (i + 1)) (c' :: S) => match frz S (.c i) with
    | some d => .ok d c'
    | none => .un
  | .nx _ (c' :: _) => .ok .non c'
  | .ex e _ (c' :: _) => .ex e c'
  | _ => .un
def runN (n : Nat) (f : MS) (ds : List D) : RNw := match f (env0 n (ds.map .d)) [] with
  | .rt (.c i) S => match S[i]? with
    | some c => .ok c
    | none => .un
  | .ex e _ _ => .ex e
  | _ => .un
section
variable {G : Gc} {e m : List Addr} {H : Hp}
theorem RE.nones : ∀ (n : Nat), RE G e m H (List.replicate n none) (List.replicate n none)
  | 0 => .nil
  | n + 1 => by rw [List.replicate_succ, List.replicate_succ]; exact .em (RE.nones n)
theorem RE.of : ∀ {us : List U} {vs : List V} (n : Nat), RUs G e m H us vs → RE G e m H (us.map some ++ List.replicate n none) (vs.map some ++ List.replicate n none)
  | _, _, n, .nil => RE.nones n
  | _, _, n, .cons r t => .cns r (RE.of n t)
theorem RVs.us : ∀ {ds : List D} {vs : List V}, RVs G e H ds vs → RUs G e m H (ds.map .d) vs
  | _, _, .nil => .nil
  | _, _, .cons r t => .cons (.d r) (RVs.us t)
theorem RUs.app : ∀ {us : List U} {vs : List V} {us' : List U} {vs' : List V}, RUs G e m H us vs → RUs G e m H us' vs' → RUs G e m H (us ++ us') (vs ++ vs')
  | _, _, _, _, .nil, r => r
  | _, _, _, _, .cons r t, q => .cons r (RUs.app t q)
theorem frzC_rv {x : List Addr} {S : Sto} {i : Nat} {a : Addr} {d : D} (s : RS G (x ++ m) m H S) (hm : ∀ a ∈ m, a ∉ x) (ha : m[i]? = some a) (h : frzC S i = some d) : RV G x H d (.ref a) := by
  have kp : Keep G (x ++ m) H x H := keep_sub fun a ha => List.mem_append_left _ ha
  have na : a ∉ x := hm a (List.mem_of_getElem? ha)
  unfold frzC at h
  split at h
  · rename_i xs hs
    cases h
    obtain ⟨o, q1, q2⟩ := s.at' i a _ ha hs
    cases q2 with
    | lst q => exact .lst q1 na (q.keep kp)
  · rename_i t ks vs hs
    cases h
    obtain ⟨o, q1, q2⟩ := s.at' i a _ ha hs
    cases q2 with
    | dic q q3 => exact .dic q1 na q (q3.keep kp)
  · cases h
theorem frzW_rv {x : List Addr} {S : Sto} (s : RS G (x ++ m) m H S) (hm : ∀ a ∈ m, a ∉ x) : ∀ {us : List (D ⊕ Nat)} {vs : List V} {ds : List D}, RW G (x ++ m) m H us vs → frzW S us = some ds → RVs G x H ds vs
  | _, _, _, .nil, h => by simp only [frzW, Option.some.injEq] at h; subst h; exact .nil
  | _, _, _, .d r t, h => by
    unfold frzW at h
    split at h
    · rename_i ds h1
      cases h
      exact .cons (r.keep (keep_sub fun a ha => List.mem_append_left _ ha)) (frzW_rv s hm t h1)
    · cases h
  | _, _, _, .c ha t, h => by
    unfold frzW at h
    split at h
    · rename_i d ds h1 h2
      cases h
      exact .cons (frzC_rv s hm ha h1) (frzW_rv s hm t h2)
    · cases h
theorem frz_rv {x : List Addr} {S : Sto} {u : U} {v : V} {d : D} (s : RS G (x ++ m) m H S) (hm : ∀ a ∈ m, a ∉ x) (r : RU G (x ++ m) m H u v) (h : frz S u = some d) : RV G x H d v := by
  have kp : Keep G (x ++ m) H x H := keep_sub fun a ha => List.mem_append_left _ ha
  cases r with
  | d r => cases h; exact r.keep kp
  | @c i a ha =>
    unfold frz at h
    split at h
    · rename_i y hy; cases hy
    · rename_i j hy
      cases hy
      have na : a ∉ x := hm a (List.mem_of_getElem? ha)
      split at h
      · rename_i xs hs
        cases h
        obtain ⟨o, q1, q2⟩ := s.at' i a _ ha hs
        cases q2 with
        | lst q => exact .lst q1 na (q.keep kp)
      · rename_i t ks vs hs
        cases h
        obtain ⟨o, q1, q2⟩ := s.at' i a _ ha hs
        cases q2 with
        | dic q q3 => exact .dic q1 na q (q3.keep kp)
      · cases h
    · rename_i us hy; cases hy
  | t hq r =>
    unfold frz at h
    dsimp only at h
    split at h
    · rename_i ds h1
      cases h
      exact .tup (kp.tup _ _ hq) (frzW_rv s hm r h1)
    · cases h
theorem RX.sub {x : List Addr} {ex : Exn} {cls : Value} {d : Option Addr} (r : RX G (x ++ m) H ex cls d) : RX G x H ex cls d := by
  obtain ⟨C, h1, h2, h3⟩ := r
  refine ⟨C, h1, h2, ?_⟩
  revert h3
  cases ex.fs with
  | none => exact id
  | some fs => exact fun ⟨a, gs, q1, q2, q3⟩ => ⟨a, gs, q1, q2, q3.keep (keep_sub fun a ha => List.mem_append_left _ ha)⟩
end
section
variable {P : Program} {w : World} {K : PySem.W.Frag} {mg : Str → Option Value} {base : Heap} {T : List (Addr × Str)} {x qual : Str} {st : Stmt} {f : Addr} {fd : FuncData} {N ps : List Str} {k : Nat} {b : MS}
/-- the context of a body -/
abbrev bodyX (P : Program) (w : World) (K : PySem.W.Frag) (mg : Str → Option Value) (base : Heap) (N : List Str) (qual : Str) (st : Stmt) (f : Addr) (cdv : Value) (A : Around) (outer : List PySem.Env) (s : Shared) (H : Hp) (E : XK) : Cx :=
  cxOf (L2.CX P w) P w K mg base N qual (defScope st) f cdv A outer s H E
abbrev Der (P : Program) (w : World) (K : PySem.W.Frag) (mg : Str → Option Value) (base : Heap) (T : List (Addr × Str)) (N : List Str) (qual : Str) (st : Stmt) (f : Addr) (k : Nat) (b : MS) : Prop :=
  ∀ (cdv : Value) (A : Around) (outer : List PySem.Env) (s : Shared) (H : Hp) (E : XK), Room k (bodyX P w K mg base N qual st f cdv A outer s H E).A → (bodyX P w K mg base N qual st f cdv A outer s H E).A.units + 65 < cLine →
    Takes (bodyX P w K mg base N qual st f cdv A outer s H E) (fun cls d _ H => E cls d H) → PassesOwn (model (bodyX P w K mg base N qual st f cdv A outer s H E).prog (bodyX P w K mg base N qual st f cdv A outer s H E).w) (bodyX P w K mg base N qual st f cdv A outer s H E).A (bodyX P w K mg base N qual st f cdv A outer s H E).env (bodyX P w K mg base N qual st f cdv A outer s H E).xe →
    PSs (bodyX P w K mg base N qual st f cdv A outer s H E) (defBody st) (tS (gOf (bodyX P w K mg base N qual st f cdv A outer s H E) T) (fun cls d _ H => E cls d H) b)

/-- what a body's derivation gives, whatever is promised -/
abbrev OBt (P : Program) (w : World) (K : PySem.W.Frag) (mg : Str → Option Value) (base : Heap) (T : List (Addr × Str)) (N : List Str) (f : Addr) (fd : FuncData) (k : Nat) (ps : List Str) (b : MS) : Prop :=
  ∀ sp : Sp, (∀ vs H Q E, sp vs H Q E → vs.length = ps.length) → (∀ vs H Q E, sp vs H Q E → ∃ (x m : List Addr) (ρ : Env) (S' : Sto), Rp ⟨P, w, K, mg, T⟩ x m H ρ S' (L2.start N vs) ∧ PostS ⟨P, w, K, mg, T⟩ (fun cls d _ H => E cls d H) x m H (b ρ S') { nx := fun _ H' => Q .non H', rt := Q }) →
    FnOk P w K mg base (L2.CX P w) (k + 1) f fd ps sp
theorem ok_body (F : Fun K x qual st f fd) (S : FnScope N ps (defScope st)) {sp : Sp} (hl : ∀ vs H Q E, sp vs H Q E → vs.length = ps.length) (D' : Der P w K mg base T N qual st f k b)
    (h : ∀ vs H Q E, sp vs H Q E → ∃ (x m : List Addr) (ρ : Env) (S' : Sto), Rp ⟨P, w, K, mg, T⟩ x m H ρ S' (L2.start N vs) ∧ PostS ⟨P, w, K, mg, T⟩ (fun cls d _ H => E cls d H) x m H (b ρ S') { nx := fun _ H' => Q .non H', rt := Q }) :
    FnOk P w K mg base (L2.CX P w) (k + 1) f fd ps sp := by
  refine F.okX S hl fun cdv A outer s H vs Q E hr hsp => ?_
  exact ⟨_, D' cdv A outer s H E hr (Nat.lt_of_le_of_lt (Nat.add_le_add_left (show 65 ≤ 16 * k + 200 by omega) _) (by rw [← Nat.add_assoc]; exact hr.un)) (takes_of rfl rfl rfl rfl) (passes_of rfl), h vs H Q E hsp⟩
theorem ok0' {n : Nat} {Fn : List D → R} (OB : OBt P w K mg base T N f fd k ps b) (hn : n = ps.length) (h : ∀ ds, Fn ds ≠ .un → run0 N.length b ds = Fn ds) :
    FnOk P w K mg base (L2.CX P w) (k + 1) f fd ps (sp0 ⟨P, w, K, mg, T⟩ n Fn) := by
  refine OB _ (fun vs H Q E h => h.1.trans hn) fun vs H Q E ⟨hl, y, ds, tr, tb, r, pr⟩ => ?_
  have hds : ds.length = vs.length := r.len
  refine ⟨y, [], env0 N.length (ds.map .d), [], ⟨?_, ⟨rfl, List.nodup_nil, fun _ z => (by cases z), fun i a c h => (by simp at h)⟩, tr, tb⟩, ?_⟩
  · unfold env0 L2.start
    rw [List.length_map, hds, List.append_nil]
    exact RE.of _ (RVs.us r)
  · have hne : Fn ds ≠ .un := fun z => by rw [z] at pr; exact pr
    have hrun := h ds hne
    unfold run0 at hrun
    rw [← hrun] at pr
    cases q : b (env0 N.length (ds.map .d)) [] with
    | nx ρ' S' => rw [q] at pr; exact fun m' H' σ' E1 _ => pr H' .non E1.drop .non
    | rt u S' =>
      rw [q] at pr
      intro m' H' v E1 rs ru
      dsimp only at pr
      split at pr
      · rename_i d hd
        refine pr H' v E1.drop (frz_rv rs (fun a ha z => ?_) ru hd)
        obtain ⟨nw, e1, f1⟩ := E1.pre
        rw [List.nil_append] at e1
        exact f1 a (by rw [← e1]; exact ha) (tr a z)
      · exact pr.elim
    | bk ρ' S' => rw [q] at pr; exact pr.elim
    | ct ρ' S' => rw [q] at pr; exact pr.elim
    | ex e ρ' S' => rw [q] at pr; exact fun m' H' σ' cls d E1 _ rx => pr H' cls d E1.drop rx.sub
    | un => rw [q] at pr; exact pr.elim
theorem ok0 {n : Nat} {Fn : List D → R} (F : Fun K x qual st f fd) (S : FnScope N ps (defScope st)) (D' : Der P w K mg base T N qual st f k b) (hn : n = ps.length) (h : ∀ ds, Fn ds ≠ .un → run0 N.length b ds = Fn ds) :
    FnOk P w K mg base (L2.CX P w) (k + 1) f fd ps (sp0 ⟨P, w, K, mg, T⟩ n Fn) := ok0' (fun sp hl h => ok_body F S hl D' h) hn h
theorem okN' {n : Nat} {Fn : List D → RNw} (OB : OBt P w K mg base T N f fd k ps b) (hn : n = ps.length) (h : ∀ ds, Fn ds ≠ .un → runN N.length b ds = Fn ds) :
    FnOk P w K mg base (L2.CX P w) (k + 1) f fd ps (spN ⟨P, w, K, mg, T⟩ n Fn) := by
  refine OB _ (fun vs H Q E h => h.1.trans hn) fun vs H Q E ⟨hl, y, ds, tr, tb, r, pr⟩ => ?_
  have hds : ds.length = vs.length := r.len
  refine ⟨y, [], env0 N.length (ds.map .d), [], ⟨?_, ⟨rfl, List.nodup_nil, fun _ z => (by cases z), fun i a c h => (by simp at h)⟩, tr, tb⟩, ?_⟩
  · unfold env0 L2.start
    rw [List.length_map, hds, List.append_nil]
    exact RE.of _ (RVs.us r)
  · have hne : Fn ds ≠ .un := fun z => by rw [z] at pr; exact pr
    have hrun := h ds hne
    unfold runN at hrun
    rw [← hrun] at pr
    cases q : b (env0 N.length (ds.map .d)) [] with
    | nx ρ' S' => rw [q] at pr; exact pr.elim
    | rt u S' =>
      rw [q] at pr
      intro m' H' v E1 rs ru
      cases ru with
      | d r => exact pr.elim
      | t _ _ => exact pr.elim
      | @c i a ha =>
        cases hS : S'[i]? with
        | none => simp only [hS] at pr
        | some c =>
          simp only [hS] at pr
          obtain ⟨o, o1, o2⟩ := rs.at' i a _ ha hS
          obtain ⟨nw, e1, f1⟩ := E1.pre
          rw [List.nil_append] at e1
          have na : ¬ Nt H a := f1 a (by rw [← e1]; exact List.mem_of_getElem? ha)
          refine pr H' a o ⟨fun b u g _ t => E1.keep b u g (fun z => by cases z) t, E1.tups, E1.frzs, E1.owns, E1.live, ⟨[a], rfl, fun b hb => ?_⟩, E1.tab⟩ o1 (o2.keep (keep_sub fun c hc => ?_) fun _ _ z => z)
          · have e2 : b = a := by simpa using hb
            rw [e2]; exact na
          · rcases List.mem_append.mp hc with z | z
            · exact List.mem_append_left _ z
            · have e2 : c = a := by simpa using z
              rw [e2]; exact List.mem_append_right _ (List.mem_of_getElem? ha)
    | bk ρ' S' => rw [q] at pr; exact pr.elim
    | ct ρ' S' => rw [q] at pr; exact pr.elim
    | ex e ρ' S' => rw [q] at pr; exact fun m' H' σ' cls d E1 _ rx => pr H' cls d E1.drop rx.sub
    | un => rw [q] at pr; exact pr.elim
theorem okN {n : Nat} {Fn : List D → RNw} (F : Fun K x qual st f fd) (S : FnScope N ps (defScope st)) (D' : Der P w K mg base T N qual st f k b) (hn : n = ps.length) (h : ∀ ds, Fn ds ≠ .un → runN N.length b ds = Fn ds) :
    FnOk P w K mg base (L2.CX P w) (k + 1) f fd ps (spN ⟨P, w, K, mg, T⟩ n Fn) := okN' (fun sp hl h => ok_body F S hl D' h) hn h
theorem ins_rus {G : Gc} {e m : List Addr} {H : Hp} {a : Addr} (hm : m[0]? = some a) : ∀ {p : Nat} {ds : List D} {vs : List V}, RVs G e H ds (vs.eraseIdx p) → vs[p]? = some (.ref a) → RUs G e m H (ins1 p ds) vs
  | 0, ds, v :: vs, r, h => by
    simp only [List.getElem?_cons_zero, Option.some.injEq] at h
    subst h
    rw [List.eraseIdx_cons_zero] at r
    simp only [ins1, List.take_zero, List.map_nil, List.nil_append, List.drop_zero]
    exact .cons (.c hm) (RVs.us r)
  | p + 1, ds, v :: vs, r, h => by
    rw [List.eraseIdx_cons_succ] at r
    cases r with
    | @cons d _ ds' _ r1 r2 =>
      have q := ins_rus (p := p) hm r2 (by simpa using h)
      show RUs G e m H (ins1 (p + 1) (d :: ds')) (v :: vs)
      have e1 : ins1 (p + 1) (d :: ds') = .d d :: ins1 p ds' := by simp [ins1]
      rw [e1]
      exact .cons (.d r1) q
  | _, _, [], _, h => by simp at h
theorem ins1_len {p : Nat} {ds : List D} (h : p ≤ ds.length) : (ins1 p ds).length = ds.length + 1 := by
  simp [ins1]; omega
theorem ok1' {n p : Nat} {Fn : List D → Cell → R1} (OB : OBt P w K mg base T N f fd k ps b) (hn : n = ps.length) (h : ∀ ds c, Fn ds c ≠ .un → run1 N.length p b ds c = Fn ds c) :
    FnOk P w K mg base (L2.CX P w) (k + 1) f fd ps (sp1 ⟨P, w, K, mg, T⟩ n p Fn) := by
  refine OB _ (fun vs H Q E h => h.1.trans hn) fun vs H Q E ⟨hl, y, a, c, o, ds, tr, tb, hay, hp, ha, rc, r, pr⟩ => ?_
  have kp : Keep ⟨P, w, K, mg, T⟩ y H (y ++ [a]) H := keep_sub fun b hb => by
    rcases List.mem_append.mp hb with z | z
    · exact z
    · have e1 : b = a := by simpa using z
      rw [e1]; exact hay
  have hus : RUs ⟨P, w, K, mg, T⟩ (y ++ [a]) [a] H (ins1 p ds) vs := ins_rus rfl (r.keep kp) hp
  refine ⟨y, [a], env0 N.length (ins1 p ds), [c], ⟨?_, ⟨rfl, by simp, fun b hb => List.mem_append_right _ hb, fun i b c' h1 h2 => ?_⟩, tr, tb⟩, ?_⟩
  · unfold env0 L2.start
    rw [RUs.length hus]
    exact RE.of _ hus
  · cases i with
    | zero =>
      simp at h1 h2
      subst h1 h2
      exact ⟨o, ha, rc.keep kp fun _ _ z => z⟩
    | succ i => simp at h1
  · have hne : Fn ds c ≠ .un := fun z => by rw [z] at pr; exact pr
    have hrun := h ds c hne
    unfold run1 at hrun
    rw [← hrun] at pr
    -- the first cell is still the caller's
    have first : ∀ {m' : List Addr} {H' : Hp} {c' : Cell} {S' : Sto}, Ext ⟨P, w, K, mg, T⟩ [a] H m' H' → RS ⟨P, w, K, mg, T⟩ (y ++ m') m' H' (c' :: S') → ∃ o', H' a = some o' ∧ RC ⟨P, w, K, mg, T⟩ y H' a c' o' := fun {m' H' c' S'} E1 rs => by
      obtain ⟨nw, e1, f1⟩ := E1.pre
      obtain ⟨o', q1, q2⟩ := rs.at' 0 a c' (by rw [e1]; rfl) rfl
      exact ⟨o', q1, q2.keep (keep_sub fun b hb => List.mem_append_left _ hb) fun _ _ z => z⟩
    cases q : b (env0 N.length (ins1 p ds)) [c] with
    | nx ρ' S' =>
      rw [q] at pr
      intro m' H' σ' E1 rp
      cases S' with
      | nil => exact pr.elim
      | cons c' S' =>
        obtain ⟨o', q1, q2⟩ := first E1 rp.sto
        exact pr H' .non o' E1.drop q1 q2 .non
    | rt u S' =>
      rw [q] at pr
      intro m' H' v E1 rs ru
      cases S' with
      | nil =>
        cases u with
        | d x => exact pr.elim
        | t us => exact pr.elim
        | c i => cases i <;> exact pr.elim
      | cons c' S' =>
        obtain ⟨o', q1, q2⟩ := first E1 rs
        obtain ⟨nw, e1, f1⟩ := E1.pre
        cases u with
        | d x =>
          cases ru with
          | d r => exact pr H' v o' E1.drop q1 q2 (r.keep (keep_sub fun b hb => List.mem_append_left _ hb))
        | t us => exact pr.elim
        | c i =>
          cases i with
          | zero => exact pr.elim
          | succ i =>
            cases hf : frz S' (.c i) with
            | none => simp only [hf] at pr
            | some d =>
              simp only [hf] at pr
              refine pr H' v o' E1.drop q1 q2 ?_
              cases ru with
              | @c _ b hb =>
                have hb' : b ∈ nw := by
                  rw [e1] at hb
                  exact List.mem_of_getElem? (by simpa using hb)
                have nb : b ∉ y := fun z => f1 b hb' (tr b z)
                unfold frz at hf
                dsimp only at hf
                split at hf
                · rename_i xs hs
                  cases hf
                  obtain ⟨o2, q3, q4⟩ := rs.at' (i + 1) b _ hb (by simpa using hs)
                  cases q4 with
                  | lst q4 => exact .lst q3 nb (q4.keep (keep_sub fun b hb => List.mem_append_left _ hb))
                · rename_i t ks vs' hs
                  cases hf
                  obtain ⟨o2, q3, q4⟩ := rs.at' (i + 1) b _ hb (by simpa using hs)
                  cases q4 with
                  | dic q4 q5 => exact .dic q3 nb q4 (q5.keep (keep_sub fun b hb => List.mem_append_left _ hb))
                · cases hf
    | bk ρ' S' => rw [q] at pr; exact pr.elim
    | ct ρ' S' => rw [q] at pr; exact pr.elim
    | ex e ρ' S' =>
      rw [q] at pr
      intro m' H' σ' cls d E1 rp rx
      cases S' with
      | nil => exact pr.elim
      | cons c' S' =>
        obtain ⟨o', q1, q2⟩ := first E1 rp.sto
        exact pr H' o' cls d E1.drop q1 q2 rx.sub
    | un => rw [q] at pr; exact pr.elim
theorem ok1 {n p : Nat} {Fn : List D → Cell → R1} (F : Fun K x qual st f fd) (S : FnScope N ps (defScope st)) (D' : Der P w K mg base T N qual st f k b) (hn : n = ps.length) (h : ∀ ds c, Fn ds c ≠ .un → run1 N.length p b ds c = Fn ds c) :
    FnOk P w K mg base (L2.CX P w) (k + 1) f fd ps (sp1 ⟨P, w, K, mg, T⟩ n p Fn) := ok1' (fun sp hl h => ok_body F S hl D' h) hn h
end
end Mir

/-! Mir7: statements. -/
namespace Mir
open PySem PySem.Spec PyProof.Rows L2

abbrev MG := U → Env → Sto → Option (Env × Sto)
def nxtM : MS := fun ρ S => .nx ρ S
def seqM (f g : MS) : MS := fun ρ S => match f ρ S with
  | .nx ρ' S' => g ρ' S'
  | o => o
def toS (ρ : Env) (o : O U) (k : U → Sto → SO) : SO := match o with
  | .ok u S' => k u S'
  | .ex e S' => .ex e ρ S'
  | .un => .un
def retM (f : ME) : MS := fun ρ S => toS ρ (f ρ S) fun u S' => .rt u S'
def retNM : MS := fun _ S => .rt (.d .non) S
def drpM (f : ME) : MS := fun ρ S => toS ρ (f ρ S) fun _ S' => .nx ρ S'
def asgM (f : ME) (g : MG) : MS := fun ρ S => toS ρ (f ρ S) fun u S' => match g u ρ S' with
  | some q => .nx q.1 q.2
  | none => .un
def ifM (t : MT) (f g : MS) : MS := fun ρ S => match t ρ S with
  | .ok b S' => if b = true then f ρ S' else g ρ S'
  | .ex e S' => .ex e ρ S'
  | .un => .un
def brkM : MS := fun ρ S => .bk ρ S
def cntM : MS := fun ρ S => .ct ρ S
def raiM (e : Exn) : MS := fun ρ S => .ex e ρ S
/-- targets -/
def namG (i : Nat) : MG := fun u ρ S => some (ρ.set i (some u), S)
def allG : List MG → List D → Env → Sto → Option (Env × Sto)
  | [], [], ρ, S => some (ρ, S)
  | g :: gs, d :: ds, ρ, S => match g (.d d) ρ S with
    | some q => allG gs ds q.1 q.2
    | none => none
  | _, _, _, _ => none
def tupG (gs : List MG) : MG := fun u ρ S => match u with
  | .d (.tup xs) => allG gs xs ρ S
  | _ => none
def lsuG (gs : List MG) : MG := fun u ρ S => match rd S u with
  | some (.lst xs) => allG gs xs ρ S
  | _ => none
/-- two or three names at once -/
def parM (is : List Nat) (fs : List ME) : MS := fun ρ S => match argsM fs ρ S with
  | .ok us S' => if us.length = is.length then .nx ((is.zip us).foldl (fun ρ p => ρ.set p.1 (some p.2)) ρ) S' else .un
  | .ex e S' => .ex e ρ S'
  | .un => .un

section
variable {G : Gc} {W : WX} {x m : List Addr} {H : Hp} {σ : St} {ρ : Env}
theorem Post.toS {o : O U} {k : U → Sto → SO} {Dn : Ends} (h : PostS G W x m H (toS ρ o k) Dn) {S : Sto} (p : Rp G x m H ρ S σ) : Post G W x m σ H o fun u S1 m1 H1 => Ext G m H m1 H1 ∧ RS G (x ++ m1) m1 H1 S1 ∧ PostS G W x m1 H1 (k u S1) Dn := by
  cases o with
  | ok u S' => exact fun m' H' E R => ⟨E, R, PostS.shift E h⟩
  | ex e S' => exact fun m' H' cls d E R rx => h m' H' σ cls d E (p.ext E R) rx
  | un => exact h
end
def tG (G : Gc) (W : WX) (g : MG) : TG := fun v σ H Q => ∃ x m ρ S u, Rp G x m H ρ S σ ∧ RU G (x ++ m) m H u v ∧ match g u ρ S with
  | some q => ∀ m' H' σ', Ext G m H m' H' → Rp G x m' H' q.1 q.2 σ' → Q σ' H'
  | none => False
section
variable {X : Cx} {T : List (Addr × Str)} {W : WX} {st : Stmt} {rest a b : List Stmt} {e : Expr} {f g : MS} {fe : ME} {gt : MG} {pos : Pos}
theorem s_nil : PSs X [] (tS (gOf X T) W nxtM) := pss_mono pss_nil fun Dn σ H h => by
  obtain ⟨x, m, ρ, S, p, h⟩ := h
  exact h m H σ Ext.refl p
theorem s_cons (h1 : PS X st (tS (gOf X T) W f)) (h2 : PSs X rest (tS (gOf X T) W g)) : PSs X (st :: rest) (tS (gOf X T) W (seqM f g)) := pss_mono (pss_cons h1 h2) fun Dn σ H h => by
  obtain ⟨x, m, ρ, S, p, h⟩ := h
  refine ⟨x, m, ρ, S, p, ?_⟩
  unfold seqM at h
  cases q : f ρ S with
  | nx ρ' S' =>
    rw [q] at h
    exact fun m' H' σ' E1 p1 => ⟨x, m', ρ', S', p1, PostS.shift E1 h⟩
  | rt u S' => rw [q] at h; exact h
  | bk ρ' S' => rw [q] at h; exact h
  | ct ρ' S' => rw [q] at h; exact h
  | ex e ρ' S' => rw [q] at h; exact h
  | un => rw [q] at h; exact h
theorem s_one (h1 : PS X st (tS (gOf X T) W f)) : PSs X [st] (tS (gOf X T) W f) := pss_one h1
theorem s_pass : PS X (.Pass pos) (tS (gOf X T) W nxtM) := ps_mono ps_pass fun Dn σ H h => by
  obtain ⟨x, m, ρ, S, p, h⟩ := h
  exact h m H σ Ext.refl p
theorem s_doc {y j p2} : PS X (.Expr (.Constant (.str y) j pos) p2) (tS (gOf X T) W nxtM) := ps_mono ps_doc fun Dn σ H h => by
  obtain ⟨x, m, ρ, S, p, h⟩ := h
  exact h m H σ Ext.refl p
theorem s_brk : PS X (.Break pos) (tS (gOf X T) W brkM) := ps_mono ps_break fun Dn σ H h => by
  obtain ⟨x, m, ρ, S, p, h⟩ := h
  exact h m H σ Ext.refl p
theorem s_cnt : PS X (.Continue pos) (tS (gOf X T) W cntM) := ps_mono ps_continue fun Dn σ H h => by
  obtain ⟨x, m, ρ, S, p, h⟩ := h
  exact h m H σ Ext.refl p
theorem s_ret (he : PE X e (tE (gOf X T) W fe)) : PS X (.Return (some e) pos) (tS (gOf X T) W (retM fe)) := ps_mono (ps_ret he) fun Dn σ H h => by
  obtain ⟨x, m, ρ, S, p, h⟩ := h
  exact ⟨x, m, ρ, S, p, (Post.toS h p).mono fun u S1 m1 H1 E1 R1 ⟨_, _, h1⟩ v rv => h1 m1 H1 v Ext.refl R1 rv⟩
theorem s_retN : PS X (.Return none pos) (tS (gOf X T) W retNM) := ps_mono ps_retN fun Dn σ H h => by
  obtain ⟨x, m, ρ, S, p, h⟩ := h
  exact h m H .non Ext.refl p.sto (.d .non)
theorem s_expr (he : PE X e (tE (gOf X T) W fe)) (hs : swapsWith e none pos.line X.env = pure false := by rfl) : PS X (.Expr e pos) (tS (gOf X T) W (drpM fe)) := ps_mono (ps_expr he hs) fun Dn σ H h => by
  obtain ⟨x, m, ρ, S, p, h⟩ := h
  exact ⟨x, m, ρ, S, p, (Post.toS h p).mono fun u S1 m1 H1 E1 R1 ⟨_, _, h1⟩ v rv => h1 m1 H1 σ Ext.refl (p.ext E1 R1)⟩
theorem s_set (i : Nat) {y : Str} {p2 : Pos} (hN : X.N.Nodup) (he : PE X e (tE (gOf X T) W fe)) (hi : X.N[i]? = some y := by rfl) (hx : Loc X.env.scope y := by first | exact Or.inl rfl | exact Or.inr rfl) (hs : swapsWith e (some (.Name y p2)) pos.line X.env = pure false := by rfl) (hf : X.fn y = true ∨ X.env.scope.names.lookup y = some .local := by first | exact .inl rfl | exact .inr rfl) :
    PS X (.Assign [.Name y p2] e pos) (tS (gOf X T) W (asgM fe (namG i))) := ps_mono (ps_set hN hi hx he hs hf) fun Dn σ H h => by
  obtain ⟨x, m, ρ, S, p, h⟩ := h
  refine ⟨x, m, ρ, S, p, (Post.toS h p).mono fun u S1 m1 H1 E1 R1 ⟨_, _, h1⟩ v rv => ?_⟩
  have p1 := p.ext E1 R1
  exact h1 m1 H1 _ Ext.refl ⟨p1.env.set rv i, p1.sto, p1.ex, p1.tab⟩
theorem s_asg {tg : Expr} (he : PE X e (tE (gOf X T) W fe)) (hg : PG X tg (tG (gOf X T) W gt)) (hs : swapsWithSole [tg] e pos.line X.env = pure false := by rfl) (hw : swappedStores [tg] e X.env = pure none := by rfl)
    (h1 : (assignEach [tg] X.env).map (·.2) = [assign tg X.env] := by rfl) : PS X (.Assign [tg] e pos) (tS (gOf X T) W (asgM fe gt)) := ps_mono (ps_asg he hg hs hw h1) fun Dn σ H h => by
  obtain ⟨x, m, ρ, S, p, h⟩ := h
  cases q : fe ρ S with
  | un => simp only [asgM, q, toS] at h; exact h.elim
  | ex ee S' =>
    refine ⟨x, m, ρ, S, p, ?_⟩
    simp only [asgM, q, toS] at h ⊢
    exact fun m' H' cls d E R rx => h m' H' σ cls d E (p.ext E R) rx
  | ok u S' =>
    refine ⟨x, m, ρ, S, p, ?_⟩
    rw [q]
    intro m1 H1 E1 R1 v rv
    have p1 := p.ext E1 R1
    simp only [asgM, q, toS] at h
    refine ⟨x, m1, ρ, S', u, p1, rv, ?_⟩
    revert h
    cases gt u ρ S' with
    | some q => exact fun h m' H' σ' E2 p2 => h m' H' σ' (E1.trans E2) p2
    | none => exact fun h => h
theorem s_if {c : Expr} {tc : MT} (hc : PT X c (tT (gOf X T) W tc)) (ha : PSs X a (tS (gOf X T) W f)) (hb : PSs X b (tS (gOf X T) W g)) : PS X (.If c a b pos) (tS (gOf X T) W (ifM tc f g)) := ps_mono (ps_if hc ha hb) fun Dn σ H h => by
  obtain ⟨x, m, ρ, S, p, h⟩ := h
  refine ⟨x, m, ρ, S, p, ?_⟩
  unfold ifM at h
  cases q : tc ρ S with
  | un => rw [q] at h; exact h
  | ex ee S' => rw [q] at h; exact fun m' H' cls d E R rx => h m' H' σ cls d E (p.ext E R) rx
  | ok b S' =>
    rw [q] at h
    intro m1 H1 E1 R1
    cases b with
    | true => exact iteT ⟨x, m1, ρ, S', p.ext E1 R1, PostS.shift E1 (by simpa using h)⟩
    | false => exact iteF ⟨x, m1, ρ, S', p.ext E1 R1, PostS.shift E1 (by simpa using h)⟩
/-! ### targets -/
theorem g_nam (i : Nat) {y : Str} (hN : X.N.Nodup) (hi : X.N[i]? = some y := by rfl) (hx : Loc X.env.scope y := by first | exact Or.inl rfl | exact Or.inr rfl) (hf : X.fn y = true ∨ X.env.scope.names.lookup y = some .local := by first | exact .inl rfl | exact .inr rfl) :
    PG X (.Name y pos) (tG (gOf X T) W (namG i)) := ⟨fun pins s σ H v u Q I r h => (pg_name hN hi hx hf).run pins s σ H v u Q I r (by
  obtain ⟨x, m, ρ, S, u', p, ru, h⟩ := h
  exact h m H _ Ext.refl ⟨p.env.set ru i, p.sto, p.ex, p.tab⟩)⟩
def tGs (G : Gc) (W : WX) (gs : List MG) : TGs := fun vs σ H Q => ∃ x m ρ S ds, Rp G x m H ρ S σ ∧ RVs G (x ++ m) H ds vs ∧ match allG gs ds ρ S with
  | some q => ∀ m' H' σ', Ext G m H m' H' → Rp G x m' H' q.1 q.2 σ' → Q σ' H'
  | none => False
theorem gs_nil : PGs X [] (tGs (gOf X T) W []) := ⟨fun pins s σ H vs us Q I r h => pgs_nil.run pins s σ H vs us Q I r (by
  obtain ⟨x, m, ρ, S, ds, p, rv, h⟩ := h
  cases rv with
  | nil => exact ⟨rfl, h m H σ Ext.refl p⟩
  | cons _ _ => exact h.elim)⟩
theorem gs_cons {es : List Expr} {gs : List MG} (h1 : PG X e (tG (gOf X T) W gt)) (h2 : PGs X es (tGs (gOf X T) W gs)) (hs : (assignEach (e :: es) X.env).map (·.2) = assign e X.env :: (assignEach es X.env).map (·.2) := by rfl) :
    PGs X (e :: es) (tGs (gOf X T) W (gt :: gs)) := ⟨fun pins s σ H vs us Q I r h => (pgs_cons h1 h2 hs).run pins s σ H vs us Q I r (by
  obtain ⟨x, m, ρ, S, ds, p, rv, h⟩ := h
  cases rv with
  | nil => exact h.elim
  | @cons d v ds vs r1 r2 =>
    refine ⟨v, vs, rfl, x, m, ρ, S, .d d, p, .d r1, ?_⟩
    simp only [allG] at h
    cases q : gt (.d d) ρ S with
    | none => rw [q] at h; exact h
    | some q1 =>
      rw [q] at h
      refine fun m' H' σ' E1 p1 => ⟨x, m', q1.1, q1.2, ds, p1, r2.keep E1.kp, ?_⟩
      revert h
      dsimp only
      cases allG gs ds q1.1 q1.2 with
      | some q2 => exact fun h m2 H2 σ2 E2 p2 => h m2 H2 σ2 (E1.trans E2) p2
      | none => exact fun h => h)⟩
theorem allG_len : ∀ {gs : List MG} {ds : List D} {ρ : Env} {S : Sto} {q : Env × Sto}, allG gs ds ρ S = some q → ds.length = gs.length := by
  intro gs
  induction gs with
  | nil => intro ds ρ S r q; cases ds with
    | nil => rfl
    | cons _ _ => simp [allG] at q
  | cons g gs ih => intro ds ρ S r q; cases ds with
    | nil => simp [allG] at q
    | cons d ds =>
      simp only [allG] at q
      split at q
      · simp [ih q]
      · cases q
theorem g_tup {es : List Expr} {k n : Nat} {gs : List MG} (hc : X.calm = true) (h : PGs X es (tGs (gOf X T) W gs)) (hl : gs.length = n := by rfl)
    (hn : (assignEach es X.env).length = n := by rfl) (hst : (assignEach es X.env).findIdx? (·.1) = none := by rfl) : PG X (.Tuple es k pos) (tG (gOf X T) W (tupG gs)) := ⟨fun pins s σ H v u Q I r hw => (pg_tup hc h hn hst).run pins s σ H v u Q I r (by
  obtain ⟨x, m, ρ, S, u', p, ru, hw⟩ := hw
  unfold tupG at hw
  split at hw
  · rename_i q
    split at q
    · rename_i xs
      cases ru with
      | d rr => cases rr with
        | @tup a vs _ h1 h2 =>
          refine ⟨a, vs, rfl, h1, ?_, x, m, ρ, S, xs, p, h2, by rw [q]; exact hw⟩
          rw [← h2.len, ← hl]
          exact allG_len q
    · cases q
  · exact hw.elim)⟩
theorem g_lsu {es : List Expr} {k n : Nat} {gs : List MG} (hc : X.calm = true) (h : PGs X es (tGs (gOf X T) W gs)) (hl : gs.length = n := by rfl)
    (hn : (assignEach es X.env).length = n := by rfl) (hst : (assignEach es X.env).findIdx? (·.1) = none := by rfl) : PG X (.Tuple es k pos) (tG (gOf X T) W (lsuG gs)) := ⟨fun pins s σ H v u Q I r hw => (pg_lst hc h hn hst).run pins s σ H v u Q I r (by
  obtain ⟨x, m, ρ, S, u', p, ru, hw⟩ := hw
  unfold lsuG at hw
  split at hw
  · rename_i q
    split at q
    · rename_i xs hx
      obtain ⟨a, vs, rfl, h1, h2⟩ := (ru.rt p.sto hx).lst'
      exact ⟨a, vs, rfl, .of h1, by rw [← h2.len, ← hl]; exact allG_len q, x, m, ρ, S, xs, p, h2, by rw [q]; exact hw⟩
    · cases q
  · exact hw.elim)⟩
end
end Mir

/-! Mir8: built-in functions. -/
namespace Mir
open PySem PySem.Spec PyProof.Rows L2
def biM (g : List D → Option D) (fs : List ME) : ME := fun ρ S => (argsM fs ρ S).bind fun us S1 => match rds S1 us with
  | some ds => match g ds with
    | some z => .ok (.d z) S1
    | none => .un
  | none => .un
def rC (G : Gc) (g : List D → Option D) : List V → Hp → VK → Prop := fun vs H Q => ∃ ds z e m, g ds = some z ∧ (∀ b ∈ e, ∃ o, H b = some o) ∧ RTs G e H ds vs ∧
  ∀ H' w, Ext G m H m H' → (∀ a ∈ m, H a ≠ none → H' a = H a) → RV G e H' z w → Q w H'
section
variable {X : Cx} {T : List (Addr × Str)} {W : WX} {x : Str} {p pos : Pos} {e : Expr} {es : List Expr} {fs : List ME} {id : String} {g : List D → Option D}
theorem bi_red {σ : St} {H : Hp} {Q : VK} (h : tE (gOf X T) W (biM g fs) σ H Q) : tCB (rC (gOf X T) g) (tA (gOf X T) W (argsM fs)) σ H Q := by
  obtain ⟨y, m, ρ, S, p, h⟩ := h
  refine ⟨y, m, ρ, S, p, (Post.bind h).mono fun us S1 m1 H1 E1 R1 ⟨_, _, h1⟩ vs rvs => ?_⟩
  have p1 := p.ext E1 R1
  split at h1
  · rename_i ds q1
    split at h1
    · rename_i z q3
      exact ⟨ds, z, y ++ m1, m1, q3, p1.trk, RUs.rts R1 rvs q1, fun H' w' E3 hs r => h1 m1 H' E3 (R1.stay E3 fun a ha => hs a ha (by obtain ⟨o, q⟩ := R1.live ha; rw [q]; simp)) w' (.d r)⟩
    · exact h1.elim
  · exact h1.elim
theorem e_bi (hc : CallR X (.builtin id) (rC (gOf X T) g)) (hm : X.mg x = none) (hv : bootBuiltins x = some (.builtin id)) (ha : PA X (e :: es) (tA (gOf X T) W (argsM fs))) (hg : Gl X x := by rfl) (hn : x ≠ "__name__" := by decide) (hdb : (x == ("__debug__" : Str)) = false := by decide)
    (he : starEach (e :: es) X.env = (false, eval e X.env) :: starEach es X.env := by rfl) (hpl : (backTo pos (starEach es X.env)).any (·.1) = false := by rfl) : PE X (.Call (.Name x p) (e :: es) [] pos) (tE (gOf X T) W (biM g fs)) :=
  pe_mono (pe_callB hc hg hm hv ha hn hdb he hpl) fun σ H Q h => bi_red h
theorem e_biT (hc : CallR X (.type id) (rC (gOf X T) g)) (hm : X.mg x = none) (hv : bootBuiltins x = some (.type id)) (ha : PA X (e :: es) (tA (gOf X T) W (argsM fs))) (hg : Gl X x := by rfl) (hn : x ≠ "__name__" := by decide) (hdb : (x == ("__debug__" : Str)) = false := by decide)
    (he : starEach (e :: es) X.env = (false, eval e X.env) :: starEach es X.env := by rfl) (hpl : (backTo pos (starEach es X.env)).any (·.1) = false := by rfl) : PE X (.Call (.Name x p) (e :: es) [] pos) (tE (gOf X T) W (biM g fs)) :=
  pe_mono (pe_callTy hc hg hm hv ha hn hdb he hpl) fun σ H Q h => bi_red h
end

/-! ### isinstance against a built-in type -/
inductive TyE where
  | int | bool | str | tuple | list
  deriving DecidableEq
def TyE.nm : TyE → String
  | .int => "int" | .bool => "bool" | .str => "str" | .tuple => "tuple" | .list => "list"
def isE : TyE → D → Bool
  | .int, .int _ => true
  | .int, .bl _ => true
  | .bool, .bl _ => true
  | .str, .str _ => true
  | .tuple, .tup _ => true
  | .list, .lst _ => true
  | .list, .scr _ => true
  | _, _ => false
def isdic : D → Bool
  | .dic _ _ _ => true
  | .obj _ _ => true
  | _ => false
def isM (t : TyE) (f : ME) : ME := fun ρ S => (f ρ S).bind fun u S1 => match rd S1 u with
  | some d => if isdic d = true then .un else .ok (.d (.bl (isE t d))) S1
  | none => .un
section
variable {G : Gc} {e : List Addr} {H : Hp}
def tyN : D → String
  | .non => "NoneType" | .bl _ => "bool" | .int _ => "int" | .str _ => "str" | .tup _ => "tuple" | .lst _ => "list" | .scr _ => "list" | .dic _ _ _ => "dict" | .obj _ _ => "dict"
theorem sqt_ty {K : PySem.W.Frag} {a : Addr} {xs : List V} (h : SqT K H a xs) : TyX K H (.ref a) (.type "tuple") := by
  rcases h with (h | ⟨o, h⟩) | ⟨o, its, n, h1, h2, _⟩
  · exact .base (.tup h)
  · exact .fTuple h
  · exact .kTuple h1 h2
theorem RT.ty {d : D} {v : V} (r : RT G e H d v) (h : isdic d = false) : TyX G.K H v (.type (tyN d)) := by
  cases r with
  | of r => cases r with
    | non => exact .base .non
    | bl b => exact .base (.bl b)
    | int i => exact .base (.int i)
    | str x => exact .base (.str x)
    | tup h1 _ => exact sqt_ty h1
    | lst h1 _ _ => exact .base (.lst h1)
    | scr h1 =>
      rcases h1 with ⟨o, h1⟩ | ⟨o, its, n, h1, h2, _⟩
      · exact .base (.frz h1)
      · exact .kList h1 h2
    | dic _ _ _ _ => simp [isdic] at h
    | obj _ _ => simp [isdic] at h
  | lst h1 _ => exact .base (.lst h1)
  | dic _ _ _ => simp [isdic] at h
inductive TK where
  | non | bool | int | str | tuple | list | dict
def TK.nm : TK → String
  | .non => "NoneType" | .bool => "bool" | .int => "int" | .str => "str" | .tuple => "tuple" | .list => "list" | .dict => "dict"
def isK : TyE → TK → Bool
  | .int, .int => true
  | .int, .bool => true
  | .bool, .bool => true
  | .str, .str => true
  | .tuple, .tuple => true
  | .list, .list => true
  | _, _ => false
theorem kit_tab (t : TyE) (k : TK) : kitB k.nm t.nm = some (isK t k) := by
  cases t <;> cases k <;> decide +kernel
theorem kit_is (t : TyE) (d : D) : kitB (tyN d) t.nm = some (isE t d) := by
  cases d with
  | non => exact (kit_tab t .non).trans (by cases t <;> rfl)
  | bl b => exact (kit_tab t .bool).trans (by cases t <;> rfl)
  | int b => exact (kit_tab t .int).trans (by cases t <;> rfl)
  | str b => exact (kit_tab t .str).trans (by cases t <;> rfl)
  | tup b => exact (kit_tab t .tuple).trans (by cases t <;> rfl)
  | lst b => exact (kit_tab t .list).trans (by cases t <;> rfl)
  | scr b => exact (kit_tab t .list).trans (by cases t <;> rfl)
  | dic t' k v => exact (kit_tab t .dict).trans (by cases t <;> rfl)
  | obj x ds => exact (kit_tab t .dict).trans (by cases t <;> rfl)
end
section
variable {X : Cx} {T : List (Addr × Str)} {W : WX} {x y : Str} {p p2 pos : Pos} {a : Expr} {f : ME}
theorem e_isi (t : TyE) (hm : X.mg "isinstance" = none) (hmt : X.mg y = none) (hv : bootBuiltins y = some (.type t.nm)) (ha : PE X a (tE (gOf X T) W f)) (hg : Gl X "isinstance" := by rfl) (hgt : Gl X y := by rfl) (hn : y ≠ "__name__" := by decide) (hdb : (y == ("__debug__" : Str)) = false := by decide)
    (he : starEach [a, .Name y p2] X.env = (false, eval a X.env) :: starEach [.Name y p2] X.env := by rfl) (he2 : starEach [.Name y p2] X.env = (false, eval (.Name y p2) X.env) :: starEach [] X.env := by rfl) (hpl : (backTo pos (starEach [.Name y p2] X.env)).any (·.1) = false := by rfl) :
    PE X (.Call (.Name "isinstance" p) [a, .Name y p2] [] pos) (tE (gOf X T) W (isM t f)) :=
  pe_mono (pe_callB call_isi hg hm (by decide +kernel) (pa_cons ha (pa_cons (pe_bltn (v := .ty t.nm) hgt hmt hv rfl hn hdb) pa_nil he2) he) (hpl := hpl)  (he := he)) fun σ H Q h => by
    obtain ⟨y, m, ρ, S, p, h⟩ := h
    refine ⟨y, m, ρ, S, p, (Post.bind h).mono fun u S1 m1 H1 E1 R1 ⟨_, _, h1⟩ v rv => ?_⟩
    split at h1
    · rename_i d hd
      split at h1
      · exact h1.elim
      · rename_i nd
        exact ⟨v, .ty t.nm, .type (tyN d), .type t.nm, isE t d, rfl, .ty _, (rv.rt R1 hd).ty (by simpa using nd), kit_ty (kit_is t d), h1 m1 H1 Ext.refl R1 _ (.d (.bl _))⟩
    · exact h1.elim

/-! ### len, all, any, sum, abs, .. -/
def lenG : List D → Option D
  | [.lst xs] => some (.int xs.length)
  | [.tup xs] => some (.int xs.length)
  | [.str x] => if x.length ≤ big then some (.int x.length) else none
  | [.scr xs] => some (.int xs.length)
  | _ => none
theorem RTs.one {G : Gc} {e : List Addr} {H : Hp} {d : D} {vs : List V} (r : RTs G e H [d] vs) : ∃ v, vs = [v] ∧ RT G e H d v := by
  cases r with
  | cons r t => cases t; exact ⟨_, rfl, r⟩
theorem RTs.two {G : Gc} {e : List Addr} {H : Hp} {d d' : D} {vs : List V} (r : RTs G e H [d, d'] vs) : ∃ v w, vs = [v, w] ∧ RT G e H d v ∧ RT G e H d' w := by
  cases r with
  | cons r t => cases t with
    | cons r' t => cases t; exact ⟨_, _, rfl, r, r'⟩
theorem c_len : CallR X (.builtin "len") (rC (gOf X T) lenG) := by
  intro pins s σ H vs us Q I rs ⟨ds, z, e, m, hg, tr, r, q⟩
  unfold lenG at hg
  split at hg
  · cases hg
    obtain ⟨v, rfl, r1⟩ := r.one
    obtain ⟨a, xs, rfl, h1, h2⟩ := r1.lst'
    exact call_len_seq pins s σ H _ us Q I rs ⟨a, xs, rfl, .inl (.of h1), by rw [← h2.len]; exact q _ _ Ext.refl (noKeep rfl) (.int _)⟩
  · cases hg
    obtain ⟨v, rfl, r1⟩ := r.one
    obtain ⟨a, xs, rfl, h1, h2⟩ := r1.tup
    exact call_len_seq pins s σ H _ us Q I rs ⟨a, xs, rfl, .inr h1, by rw [← h2.len]; exact q _ _ Ext.refl (noKeep rfl) (.int _)⟩
  · split at hg
    · rename_i hl
      cases hg
      obtain ⟨v, rfl, r1⟩ := r.one
      cases r1.str
      exact call_len_str pins s σ H _ us Q I rs ⟨_, rfl, big_ok hl, q _ _ Ext.refl (noKeep rfl) (.int _)⟩
    · cases hg
  · rename_i ns
    cases hg
    obtain ⟨v, rfl, r1⟩ := r.one
    obtain ⟨a, rfl, h1⟩ := r1.scr
    exact call_len_seq pins s σ H _ us Q I rs ⟨a, _, rfl, .inl h1, by rw [List.length_map]; exact q _ _ Ext.refl (noKeep rfl) (.int _)⟩
  · cases hg
/-- truths, ints of a list -/
def blsOf : List D → Option (List Bool)
  | [] => some []
  | .bl b :: ds => (blsOf ds).map (b :: ·)
  | _ => none
def intsOf : List D → Option (List Int)
  | [] => some []
  | .int b :: ds => (intsOf ds).map (b :: ·)
  | _ => none
def strsOf : List D → Option (List Str)
  | [] => some []
  | .str b :: ds => (strsOf ds).map (b :: ·)
  | _ => none
theorem RVs.bls {G : Gc} {e : List Addr} {H : Hp} : ∀ {ds : List D} {vs : List V} {bs : List Bool}, RVs G e H ds vs → blsOf ds = some bs → vs = bs.map V.bl
  | _, _, _, .nil, h => by simp [blsOf] at h; subst h; rfl
  | _, _, _, .cons r t, h => by
    unfold blsOf at h
    split at h
    · rename_i q; cases q
    · rename_i b ds q
      cases q
      obtain ⟨bs, h1, rfl⟩ := Option.map_eq_some_iff.mp h
      cases r
      rw [RVs.bls t h1]; rfl
    · cases h
theorem RVs.ints {G : Gc} {e : List Addr} {H : Hp} : ∀ {ds : List D} {vs : List V} {bs : List Int}, RVs G e H ds vs → intsOf ds = some bs → vs = bs.map V.int
  | _, _, _, .nil, h => by simp [intsOf] at h; subst h; rfl
  | _, _, _, .cons r t, h => by
    unfold intsOf at h
    split at h
    · rename_i q; cases q
    · rename_i b ds q
      cases q
      obtain ⟨bs, h1, rfl⟩ := Option.map_eq_some_iff.mp h
      cases r
      rw [RVs.ints t h1]; rfl
    · cases h
theorem RVs.strs {G : Gc} {e : List Addr} {H : Hp} : ∀ {ds : List D} {vs : List V} {bs : List Str}, RVs G e H ds vs → strsOf ds = some bs → vs = bs.map V.str
  | _, _, _, .nil, h => by simp [strsOf] at h; subst h; rfl
  | _, _, _, .cons r t, h => by
    unfold strsOf at h
    split at h
    · rename_i q; cases q
    · rename_i b ds q
      cases q
      obtain ⟨bs, h1, rfl⟩ := Option.map_eq_some_iff.mp h
      cases r
      rw [RVs.strs t h1]; rfl
    · cases h
def allB : List D → Option D
  | [.lst xs] => (blsOf xs).map fun bs => .bl (bs.all id)
  | _ => none
def anyB : List D → Option D
  | [.lst xs] => (blsOf xs).map fun bs => .bl (bs.any id)
  | _ => none
def sumG : List D → Option D
  | [.lst xs] => (intsOf xs).map fun ns => .int ns.sum
  | _ => none
def absG : List D → Option D
  | [.int i] => some (.int (if i < 0 then -i else i))
  | _ => none
theorem c_all (hc : X.calm = true) : CallR X (.builtin "all") (rC (gOf X T) allB) := by
  intro pins s σ H vs us Q I rs ⟨ds, z, e, m, hg, tr, r, q⟩
  unfold allB at hg
  split at hg
  · obtain ⟨bs, h1, rfl⟩ := Option.map_eq_some_iff.mp hg
    obtain ⟨v, rfl, r1⟩ := r.one
    obtain ⟨a, xs, rfl, g1, g2⟩ := r1.lst'
    cases g2.bls h1
    exact cr_all hc pins s σ H _ us Q I rs ⟨a, bs, rfl, .of g1, q _ _ Ext.refl (noKeep rfl) (.bl _)⟩
  · cases hg
theorem c_any (hc : X.calm = true) : CallR X (.builtin "any") (rC (gOf X T) anyB) := by
  intro pins s σ H vs us Q I rs ⟨ds, z, e, m, hg, tr, r, q⟩
  unfold anyB at hg
  split at hg
  · obtain ⟨bs, h1, rfl⟩ := Option.map_eq_some_iff.mp hg
    obtain ⟨v, rfl, r1⟩ := r.one
    obtain ⟨a, xs, rfl, g1, g2⟩ := r1.lst'
    cases g2.bls h1
    exact cr_any hc pins s σ H _ us Q I rs ⟨a, bs, rfl, .of g1, q _ _ Ext.refl (noKeep rfl) (.bl _)⟩
  · cases hg
theorem c_sum (hc : X.calm = true) : CallR X (.builtin "sum") (rC (gOf X T) sumG) := by
  intro pins s σ H vs us Q I rs ⟨ds, z, e, m, hg, tr, r, q⟩
  unfold sumG at hg
  split at hg
  · obtain ⟨bs, h1, rfl⟩ := Option.map_eq_some_iff.mp hg
    obtain ⟨v, rfl, r1⟩ := r.one
    obtain ⟨a, xs, rfl, g1, g2⟩ := r1.lst'
    cases g2.ints h1
    exact cr_sum hc pins s σ H _ us Q I rs ⟨a, bs, rfl, .of g1, q _ _ Ext.refl (noKeep rfl) (.int _)⟩
  · cases hg
theorem c_abs : CallR X (.builtin "abs") (rC (gOf X T) absG) := by
  intro pins s σ H vs us Q I rs ⟨ds, z, e, m, hg, tr, r, q⟩
  unfold absG at hg
  split at hg
  · cases hg
    obtain ⟨v, rfl, r1⟩ := r.one
    cases r1.int
    exact call_abs pins s σ H _ us Q I rs ⟨_, rfl, q _ _ Ext.refl (noKeep rfl) (.int _)⟩
  · cases hg
def intG : List D → Option D
  | [.int i] => some (.int i)
  | [.bl b] => some (.int (if b then 1 else 0))
  | [.str x] => if x.length ≤ 640 then (PySem.intText? x).map D.int else none
  | _ => none
theorem c_int : CallR X (.type "int") (rC (gOf X T) intG) := by
  intro pins s σ H vs us Q I rs ⟨ds, z, e, m, hg, tr, r, q⟩
  unfold intG at hg
  split at hg
  · cases hg
    obtain ⟨v, rfl, r1⟩ := r.one
    cases r1.int
    exact call_int1 pins s σ H _ us Q I rs (.inl ⟨_, rfl, q _ _ Ext.refl (noKeep rfl) (.int _)⟩)
  · cases hg
    obtain ⟨v, rfl, r1⟩ := r.one
    cases r1.bl
    exact call_int1 pins s σ H _ us Q I rs (.inr ⟨_, rfl, q _ _ Ext.refl (noKeep rfl) (.int _)⟩)
  · split at hg
    · rename_i hl
      obtain ⟨n, h1, rfl⟩ := Option.map_eq_some_iff.mp hg
      obtain ⟨v, rfl, r1⟩ := r.one
      cases r1.str
      exact call_int_str pins s σ H _ us Q I rs ⟨_, n, rfl, h1, hl, q _ _ Ext.refl (noKeep rfl) (.int _)⟩
    · cases hg
  · cases hg
def listG : List D → Option D
  | [.lst xs] => some (.lst xs)
  | [.tup xs] => some (.lst xs)
  | _ => none
def tupleG : List D → Option D
  | [.lst xs] => some (.tup xs)
  | [.tup xs] => some (.tup xs)
  | _ => none
theorem c_list : CallR X (.type "list") (rC (gOf X T) listG) := by
  intro pins s σ H vs us Q I rs ⟨ds, z, e, m, hg, tr, r, q⟩
  unfold listG at hg
  split at hg
  · cases hg
    obtain ⟨v, rfl, r1⟩ := r.one
    obtain ⟨a, xs, rfl, g1, g2⟩ := r1.lst'
    exact call_list_of pins s σ H _ us Q I rs ⟨a, xs, rfl, .inl (.of g1), fun l hl => q _ _ (Ext.new hl) (newKeep hl) (RV.newLst g2 hl tr)⟩
  · cases hg
    obtain ⟨v, rfl, r1⟩ := r.one
    obtain ⟨a, xs, rfl, g1, g2⟩ := r1.tup
    exact call_list_of pins s σ H _ us Q I rs ⟨a, xs, rfl, .inr g1, fun l hl => q _ _ (Ext.new hl) (newKeep hl) (RV.newLst g2 hl tr)⟩
  · cases hg
theorem c_tuple : CallR X (.type "tuple") (rC (gOf X T) tupleG) := by
  intro pins s σ H vs us Q I rs ⟨ds, z, e, m, hg, tr, r, q⟩
  unfold tupleG at hg
  split at hg
  · cases hg
    obtain ⟨v, rfl, r1⟩ := r.one
    obtain ⟨a, xs, rfl, g1, g2⟩ := r1.lst'
    exact call_tuple_of pins s σ H _ us Q I rs ⟨a, xs, rfl, .inl ⟨.of g1, fun l hl => q _ _ (Ext.new hl) (newKeep hl) (RV.newTup g2 hl tr)⟩⟩
  · cases hg
    obtain ⟨v, rfl, r1⟩ := r.one
    obtain ⟨a, xs, rfl, g1, g2⟩ := r1.tup
    exact call_tuple_of pins s σ H _ us Q I rs ⟨a, xs, rfl, .inr ⟨g1, q _ _ Ext.refl (noKeep rfl) (.tup g1 g2)⟩⟩
  · cases hg
end
end Mir

/-! Mir9: what is walked; for; while; comprehensions; cells that are forgotten. -/
namespace Mir
open PySem PySem.Spec PyProof.Rows L2 RZ
abbrev MI := Env → Sto → O (List D)
/-- J yields these data, one after another, whatever becomes of the cells -/
def Yl (G : Gc) (x m : List Addr) (H : Hp) (J : It) (ds : List D) : Prop := ∀ x2 m2 H2, (∀ b ∈ x2, b ∈ x ∨ H b = none) → Ext G m H m2 H2 → (∀ b ∈ x2 ++ m2, ∃ o, H2 b = some o) → ∀ i,
  (∀ d, ds[i]? = some d → J.go i H2 ∧ ∀ v H3, J.yld i H2 v H3 → Ext G m2 H2 m2 H3 ∧ (∀ a ∈ m2, H2 a ≠ none → H3 a = H2 a) ∧ RV G (x2 ++ m2) H3 d v) ∧ (ds.length = i → J.stop i H2)
theorem Ext.kp2 {G : Gc} {x x2 m m2 : List Addr} {H H2 : Hp} (E : Ext G m H m2 H2) (hx : ∀ b ∈ x2, b ∈ x ∨ H b = none) : Keep G (x ++ m) H (x2 ++ m2) H2 := by
  have ni : ∀ {a : Addr} {o : HO}, H a = some o → (∀ ps, o ≠ .tbl ps) → a ∉ x ++ m → a ∉ x2 ++ m2 := fun {a o} q t n z => by
    rcases List.mem_append.mp z with z | z
    · rcases hx a z with w | w
      · exact n (List.mem_append_left _ w)
      · rw [w] at q; cases q
    · exact E.notin (x := x) q t n (List.mem_append_right _ z)
  refine ⟨fun a xs h => SqT.ext E h, fun a ns h => Sc.ext E h, fun a xs h n => ⟨E.keep _ _ h (fun z => n (List.mem_append_right _ z)) (fun ps z => by cases z), ni h (fun ps z => by cases z) n⟩, fun a o t ks xs h n r => ⟨E.keep _ _ h (fun z => n (List.mem_append_right _ z)) r.notbl, ni h r.notbl n, r.ext fun a xs h => SqT.ext E h⟩, fun a φ h n => ⟨E.keep _ _ h (fun z => n (List.mem_append_right _ z)) (fun ps z => by cases z), ni h (fun ps z => by cases z) n⟩⟩
def tI (G : Gc) (W : WX) (f : MI) : TI := fun σ H R => ∃ x m ρ S, Rp G x m H ρ S σ ∧ Post G W x m σ H (f ρ S) fun ds _ m' H' => ∀ J, Yl G x m' H' J ds → R J H'
section
variable {G : Gc} {x m : List Addr} {H : Hp} {a b : Addr} {ds es : List D} {xs ys : List V}
theorem yl_tup (h : SqT G.K H a xs) (r : RVs G (x ++ m) H ds xs) : Yl G x m H (Itt G.K a) ds := fun x2 m2 H2 hx E tr i => by
  have h2 := SqT.ext E h
  have r2 := r.keep (E.kp2 hx)
  refine ⟨fun d hd => ?_, fun hl => ⟨xs, h2, by rw [← r.len]; exact Nat.le_of_eq hl⟩⟩
  obtain ⟨v, q1, q2⟩ := r2.get hd
  refine ⟨⟨xs, v, h2, q1⟩, fun v' H3 ⟨e1, e2⟩ => ?_⟩
  subst e1
  have := e2 xs h2
  rw [q1] at this
  cases this
  exact ⟨Ext.refl, fun _ _ _ => rfl, q2⟩
theorem yl_lst (h : H a = some (.lst xs)) (hn : a ∉ x ++ m) (r : RVs G (x ++ m) H ds xs) : Yl G x m H (Itl G.K a) ds := fun x2 m2 H2 hx E tr i => by
  have h2 : SqL G.K H2 a xs := .of (E.keep _ _ h (fun z => hn (List.mem_append_right _ z)) (fun ps z => by cases z))
  have r2 := r.keep (E.kp2 hx)
  refine ⟨fun d hd => ?_, fun hl => ⟨xs, h2, by rw [← r.len]; exact Nat.le_of_eq hl⟩⟩
  obtain ⟨v, q1, q2⟩ := r2.get hd
  refine ⟨⟨xs, v, h2, q1⟩, fun v' H3 ⟨e1, e2⟩ => ?_⟩
  subst e1
  have := e2 xs h2
  rw [q1] at this
  cases this
  exact ⟨Ext.refl, fun _ _ _ => rfl, q2⟩
theorem yl_rng {lo : Int} {n : Nat} : Yl G x m H (Itr lo n) ((List.range n).map fun i => D.int (lo + (i : Nat))) := fun x2 m2 H2 hx E tr i => by
  refine ⟨fun d hd => ?_, fun hl => Nat.le_of_eq (by simpa using hl : n = i)⟩
  rw [List.getElem?_map] at hd
  cases q : (List.range n)[i]? with
  | none => rw [q] at hd; cases hd
  | some j =>
    rw [q] at hd
    cases hd
    have hi : i < n := by
      have := (List.getElem?_eq_some_iff.mp q).1
      simpa using this
    have hj : j = i := by
      rw [List.getElem?_range hi] at q
      exact (Option.some.inj q).symm
    subst hj
    refine ⟨hi, fun v H3 ⟨e1, e2⟩ => ?_⟩
    subst e1 e2
    exact ⟨Ext.refl, fun _ _ _ => rfl, .int _⟩
def pairs : List D → List D → List D
  | x :: xs, y :: ys => .tup [x, y] :: pairs xs ys
  | _, _ => []
theorem pairs_get : ∀ {ds es : List D} {i : Nat}, (∀ d, (pairs ds es)[i]? = some d → ∃ a b, ds[i]? = some a ∧ es[i]? = some b ∧ d = .tup [a, b]) ∧ ((pairs ds es).length ≤ i → ds.length ≤ i ∨ es.length ≤ i)
  | [], es, i => ⟨fun d h => by simp [pairs] at h, fun _ => .inl (by simp)⟩
  | d :: ds, [], i => ⟨fun d h => by simp [pairs] at h, fun _ => .inr (by simp)⟩
  | d :: ds, e :: es, 0 => ⟨fun d' h => by simp [pairs] at h; exact ⟨d, e, rfl, rfl, h.symm⟩, fun h => by simp [pairs] at h⟩
  | d :: ds, e :: es, i + 1 => by
    have := pairs_get (ds := ds) (es := es) (i := i)
    simp only [pairs, List.getElem?_cons_succ, List.length_cons, Nat.add_le_add_iff_right]
    exact this
theorem newPair {T : Addr} {v w : V} {d e : D} {H : Hp} (hT : H T = none) (tr : ∀ b ∈ x ++ m, ∃ o, H b = some o) (r1 : RV G (x ++ m) H d v) (r2 : RV G (x ++ m) H e w) :
    Ext G m H m (upd H T (.tup [v, w])) ∧ (∀ a ∈ m, H a ≠ none → upd H T (.tup [v, w]) a = H a) ∧ RV G (x ++ m) (upd H T (.tup [v, w])) (.tup [d, e]) (.ref T) :=
  ⟨Ext.new hT, fun a _ q => upd_ne fun z => q (z ▸ hT), RV.newTup (.cons r1 (.cons r2 .nil)) hT tr⟩
theorem yl_zipT (h : SqT G.K H a xs) (h' : SqT G.K H b ys) (r : RVs G (x ++ m) H ds xs) (r' : RVs G (x ++ m) H es ys) : Yl G x m H (ItzT G.K a b) (pairs ds es) := fun x2 m2 H2 hx E tr i => by
  have h2 := SqT.ext E h
  have h2' := SqT.ext E h'
  have r2 := r.keep (E.kp2 hx)
  have r2' := r'.keep (E.kp2 hx)
  refine ⟨fun d hd => ?_, fun hl => ⟨xs, ys, h2, h2', by rw [← r.len, ← r'.len]; exact pairs_get.2 (Nat.le_of_eq hl)⟩⟩
  obtain ⟨d1, d2, g1, g2, rfl⟩ := pairs_get.1 d hd
  obtain ⟨v, q1, q2⟩ := r2.get g1
  obtain ⟨v', q1', q2'⟩ := r2'.get g2
  refine ⟨⟨xs, ys, v, v', h2, h2', q1, q1'⟩, fun w H3 ⟨T, y1, y2, e1, e2, e3, e4, e5⟩ => ?_⟩
  have z1 := e4 xs h2
  have z2 := e5 ys h2'
  rw [q1] at z1
  rw [q1'] at z2
  cases z1
  cases z2
  subst e1 e3
  exact newPair e2 tr q2 q2'
theorem yl_zipL (h : H a = some (.lst xs)) (hn : a ∉ x ++ m) (h' : H b = some (.lst ys)) (hn' : b ∉ x ++ m) (r : RVs G (x ++ m) H ds xs) (r' : RVs G (x ++ m) H es ys) : Yl G x m H (Itz G.K a b) (pairs ds es) := fun x2 m2 H2 hx E tr i => by
  have h2 : SqL G.K H2 a xs := .of (E.keep _ _ h (fun z => hn (List.mem_append_right _ z)) (fun ps z => by cases z))
  have h2' : SqL G.K H2 b ys := .of (E.keep _ _ h' (fun z => hn' (List.mem_append_right _ z)) (fun ps z => by cases z))
  have r2 := r.keep (E.kp2 hx)
  have r2' := r'.keep (E.kp2 hx)
  refine ⟨fun d hd => ?_, fun hl => ⟨xs, ys, h2, h2', by rw [← r.len, ← r'.len]; exact pairs_get.2 (Nat.le_of_eq hl)⟩⟩
  obtain ⟨d1, d2, g1, g2, rfl⟩ := pairs_get.1 d hd
  obtain ⟨v, q1, q2⟩ := r2.get g1
  obtain ⟨v', q1', q2'⟩ := r2'.get g2
  refine ⟨⟨xs, ys, v, v', h2, h2', q1, q1'⟩, fun w H3 ⟨T, y1, y2, e1, e2, e3, e4, e5⟩ => ?_⟩
  have z1 := e4 xs h2
  have z2 := e5 ys h2'
  rw [q1] at z1
  rw [q1'] at z2
  cases z1
  cases z2
  subst e1 e3
  exact newPair e2 tr q2 q2'
def enums (n : Nat) : List D → List D
  | [] => []
  | d :: ds => .tup [.int (n : Nat), d] :: enums (n + 1) ds
theorem enums_get : ∀ {ds : List D} {n i : Nat}, (∀ d, (enums n ds)[i]? = some d → ∃ a, ds[i]? = some a ∧ d = .tup [.int ((n + i : Nat) : Int), a])
  | [], n, i, d, h => by simp [enums] at h
  | d :: ds, n, 0, d', h => by simp [enums] at h; exact ⟨d, rfl, h.symm⟩
  | d :: ds, n, i + 1, d', h => by
    obtain ⟨a, h1, h2⟩ := enums_get (ds := ds) (n := n + 1) (i := i) d' (by simpa [enums] using h)
    exact ⟨a, by simpa using h1, by rw [h2, show n + 1 + i = n + (i + 1) by omega]⟩
theorem enums_len : ∀ {ds : List D} {n : Nat}, (enums n ds).length = ds.length
  | [], n => rfl
  | d :: ds, n => by simp [enums, enums_len (ds := ds)]
theorem yl_enumL (h : H a = some (.lst xs)) (hn : a ∉ x ++ m) (r : RVs G (x ++ m) H ds xs) : Yl G x m H (Ite G.K a) (enums 0 ds) := fun x2 m2 H2 hx E tr i => by
  have h2 : SqL G.K H2 a xs := .of (E.keep _ _ h (fun z => hn (List.mem_append_right _ z)) (fun ps z => by cases z))
  have r2 := r.keep (E.kp2 hx)
  refine ⟨fun d hd => ?_, fun hl => ⟨xs, h2, by rw [← r.len, ← enums_len (n := 0)]; exact Nat.le_of_eq hl⟩⟩
  obtain ⟨d1, g1, rfl⟩ := enums_get d hd
  obtain ⟨v, q1, q2⟩ := r2.get g1
  refine ⟨⟨xs, v, h2, q1⟩, fun w H3 ⟨T, y1, e1, e2, e3, e4⟩ => ?_⟩
  have z1 := e4 xs h2
  rw [q1] at z1
  cases z1
  subst e1 e3
  rw [Nat.zero_add]
  exact newPair e2 tr (.int _) q2
end

/-! ### the walked expressions -/
def seqI (f : ME) : MI := fun ρ S => (f ρ S).bind fun u S1 => match u with
  | .d (.tup xs) => .ok xs S1
  | .d (.lst xs) => .ok xs S1
  | _ => .un
def rng1I (f : ME) : MI := fun ρ S => (argsM [f] ρ S).bind fun us S1 => match us with
  | [.d (.int n)] => if n ≤ 1000000 ∧ -1000000 ≤ n then .ok ((List.range n.toNat).map fun i => .int (0 + (i : Nat))) S1 else .un
  | _ => .un
def rng2I (f g : ME) : MI := fun ρ S => (argsM [f, g] ρ S).bind fun us S1 => match us with
  | [.d (.int l), .d (.int n)] => if n ≤ 1000000 ∧ -1000000 ≤ n ∧ l ≤ 1000000 ∧ -1000000 ≤ l then .ok ((List.range (n - l).toNat).map fun i => .int (l + (i : Nat))) S1 else .un
  | _ => .un
def zipI (f g : ME) : MI := fun ρ S => (argsM [f, g] ρ S).bind fun us S1 => match us with
  | [.d (.tup xs), .d (.tup ys)] => .ok (pairs xs ys) S1
  | [.d (.lst xs), .d (.lst ys)] => .ok (pairs xs ys) S1
  | _ => .un
def enuI (f : ME) : MI := fun ρ S => (argsM [f] ρ S).bind fun us S1 => match us with
  | [.d (.lst xs)] => .ok (enums 0 xs) S1
  | _ => .un
theorem pi_mono {X : Cx} {tg e : Expr} {t t' : TI} (h : PI X tg e t) (q : ∀ σ H R, t' σ H R → t σ H R) : PI X tg e t' := ⟨fun pins s σ H R I w => h.run pins s σ H R I (q σ H R w)⟩
section
variable {X : Cx} {T : List (Addr × Str)} {W : WX} {tg e e2 : Expr} {es : List Expr} {f g : ME} {fs : List ME} {p pos : Pos}
theorem i_seq (he : PE X e (tE (gOf X T) W f)) : PI X tg e (tI (gOf X T) W (seqI f)) := ⟨fun pins s σ H R I h => by
  obtain ⟨x, m, ρ, S, p, h⟩ := h
  have h1 := Post.bind h
  cases q : f ρ S with
  | un => rw [q] at h1; exact h1.elim
  | ex ee S' =>
    refine (pi_tup he).run pins s σ H R I ⟨x, m, ρ, S, p, ?_⟩
    rw [q] at h1 ⊢
    exact h1
  | ok u S' =>
    rw [q] at h1
    cases u with
    | c i => exact (pi_tup he).run pins s σ H R I ⟨x, m, ρ, S, p, by rw [q]; exact fun m' H' E r => (h1 m' H' E r).2.2.elim⟩
    | t i => exact (pi_tup he).run pins s σ H R I ⟨x, m, ρ, S, p, by rw [q]; exact fun m' H' E r => (h1 m' H' E r).2.2.elim⟩
    | d d =>
      cases d with
      | tup xs =>
        refine (pi_tup he).run pins s σ H R I ⟨x, m, ρ, S, p, ?_⟩
        rw [q]
        intro m1 H1 E1 R1 v rv
        cases rv with
        | d rv => cases rv with
          | tup t1 t2 => exact ⟨_, rfl, ⟨_, t1⟩, (h1 m1 H1 E1 R1).2.2 m1 H1 Ext.refl R1 _ (yl_tup t1 t2)⟩
      | lst xs =>
        refine (pi_list he).run pins s σ H R I ⟨x, m, ρ, S, p, ?_⟩
        rw [q]
        intro m1 H1 E1 R1 v rv
        cases rv with
        | d rv => cases rv with
          | lst t1 tn t2 => exact ⟨_, rfl, ⟨_, .of t1⟩, (h1 m1 H1 E1 R1).2.2 m1 H1 Ext.refl R1 _ (yl_lst t1 tn t2)⟩
      | _ => exact (pi_tup he).run pins s σ H R I ⟨x, m, ρ, S, p, by rw [q]; exact fun m' H' E r => (h1 m' H' E r).2.2.elim⟩⟩
theorem RUs.i1 {G : Gc} {e m : List Addr} {H : Hp} {i : Int} {vs : List V} (r : RUs G e m H [.d (.int i)] vs) : vs = [.int i] := by
  cases r with
  | cons r t => cases t; cases r with
    | d r => cases r; rfl
theorem RUs.i2 {G : Gc} {e m : List Addr} {H : Hp} {i j : Int} {vs : List V} (r : RUs G e m H [.d (.int i), .d (.int j)] vs) : vs = [.int i, .int j] := by
  cases r with
  | cons r t => cases t with
    | cons r' t => cases t; cases r with
      | d r => cases r; cases r' with
        | d r => cases r; rfl
theorem i_rng1 (hm : X.mg "range" = none) (ha : PA X [e] (tA (gOf X T) W (argsM [f]))) (hg : Gl X "range" := by rfl) (hs : starEach [e] X.env = [(false, eval e X.env)] := by rfl) : PI X tg (.Call (.Name "range" p) [e] [] pos) (tI (gOf X T) W (rng1I f)) :=
  pi_mono (pi_range1 hg hm ha hs) fun σ H R h => by
    obtain ⟨x, m, ρ, S, p, h⟩ := h
    refine ⟨x, m, ρ, S, p, (Post.bind h).mono fun us S1 m1 H1 E1 R1 ⟨_, _, h1⟩ vs rvs => ?_⟩
    split at h1
    · split at h1
      · rename_i hb
        exact ⟨_, rvs.i1, by omega, by omega, h1 m1 H1 Ext.refl R1 _ yl_rng⟩
      · exact h1.elim
    · exact h1.elim
theorem i_rng2 (hm : X.mg "range" = none) (ha : PA X [e, e2] (tA (gOf X T) W (argsM [f, g]))) (hg : Gl X "range" := by rfl) (hs : starEach [e, e2] X.env = [(false, eval e X.env), (false, eval e2 X.env)] := by rfl) (hs2 : starEach [e2] X.env = [(false, eval e2 X.env)] := by rfl) : PI X tg (.Call (.Name "range" p) [e, e2] [] pos) (tI (gOf X T) W (rng2I f g)) :=
  pi_mono (pi_range2 hg hm ha hs hs2) fun σ H R h => by
    obtain ⟨x, m, ρ, S, p, h⟩ := h
    refine ⟨x, m, ρ, S, p, (Post.bind h).mono fun us S1 m1 H1 E1 R1 ⟨_, _, h1⟩ vs rvs => ?_⟩
    split at h1
    · split at h1
      · rename_i hb
        exact ⟨_, _, rvs.i2, ⟨by omega, by omega, by omega, by omega⟩, h1 m1 H1 Ext.refl R1 _ yl_rng⟩
      · exact h1.elim
    · exact h1.elim
theorem i_zip {elts : List Expr} {kk : Nat} {tpos : Pos} (hm : X.mg "zip" = none) (ha : PA X [e, e2] (tA (gOf X T) W (argsM [f, g]))) (hg : Gl X "zip" := by rfl) (hs : starEach [e, e2] X.env = (false, eval e X.env) :: starEach [e2] X.env := by rfl) (hpl : (backTo pos (starEach [e2] X.env)).any (·.1) = false := by rfl) :
    PI X (.Tuple elts kk tpos) (.Call (.Name "zip" p) [e, e2] [] pos) (tI (gOf X T) W (zipI f g)) := pi_mono (pi_zipA hg hm ha hs hpl) fun σ H R h => by
  obtain ⟨x, m, ρ, S, p, h⟩ := h
  refine ⟨x, m, ρ, S, p, (Post.bind h).mono fun us S1 m1 H1 E1 R1 ⟨_, _, h1⟩ vs rvs => ?_⟩
  split at h1
  · cases rvs with
    | cons r t => cases t with
      | cons r' t => cases t; cases r with
        | d r => cases r with
          | tup t1 t2 => cases r' with
            | d r' => cases r' with
              | tup t3 t4 => exact ⟨_, _, _, _, rfl, .inr ⟨t1, t3, h1 m1 H1 Ext.refl R1 _ (yl_zipT t1 t3 t2 t4)⟩⟩
  · cases rvs with
    | cons r t => cases t with
      | cons r' t => cases t; cases r with
        | d r => cases r with
          | lst t1 n1 t2 => cases r' with
            | d r' => cases r' with
              | lst t3 n3 t4 => exact ⟨_, _, _, _, rfl, .inl ⟨.of t1, .of t3, h1 m1 H1 Ext.refl R1 _ (yl_zipL t1 n1 t3 n3 t2 t4)⟩⟩
  · exact h1.elim
theorem i_enu {elts : List Expr} {kk : Nat} {tpos : Pos} (hm : X.mg "enumerate" = none) (ha : PA X [e] (tA (gOf X T) W (argsM [f]))) (hg : Gl X "enumerate" := by rfl) (hs : starEach [e] X.env = [(false, eval e X.env)] := by rfl) :
    PI X (.Tuple elts kk tpos) (.Call (.Name "enumerate" p) [e] [] pos) (tI (gOf X T) W (enuI f)) := pi_mono (pi_enum hg hm ha hs) fun σ H R h => by
  obtain ⟨x, m, ρ, S, p, h⟩ := h
  refine ⟨x, m, ρ, S, p, (Post.bind h).mono fun us S1 m1 H1 E1 R1 ⟨_, _, h1⟩ vs rvs => ?_⟩
  split at h1
  · cases rvs with
    | cons r t => cases t; cases r with
      | d r => cases r with
        | lst t1 n1 t2 => exact ⟨_, _, rfl, .of t1, h1 m1 H1 Ext.refl R1 _ (yl_enumL t1 n1 t2)⟩
  · exact h1.elim
end
end Mir

/-! Mir10: for, while, comprehensions, cells that are forgotten. -/
namespace Mir
open PySem PySem.Spec PyProof.Rows L2 RZ
/-! ### for -/
def forL (g : MG) (f : MS) : List D → MS
  | [], ρ, S => .nx ρ S
  | d :: ds, ρ, S => match g (.d d) ρ S with
    | none => .un
    | some q => match f q.1 q.2 with
      | .nx ρ' S' => forL g f ds ρ' S'
      | .ct ρ' S' => forL g f ds ρ' S'
      | .bk ρ' S' => .nx ρ' S'
      | o => o
def forM (it : MI) (g : MG) (f : MS) : MS := fun ρ S => match it ρ S with
  | .ok ds S' => forL g f ds ρ S'
  | .ex e S' => .ex e ρ S'
  | .un => .un
/-- one turn of a while, n turns at most -/
def whN (t : MT) (f : MS) : Nat → MS
  | 0, _, _ => .un
  | n + 1, ρ, S => match t ρ S with
    | .ok true S' => match f ρ S' with
      | .nx ρ' S'' => whN t f n ρ' S''
      | .ct ρ' S'' => whN t f n ρ' S''
      | .bk ρ' S'' => .nx ρ' S''
      | o => o
    | .ok false S' => .nx ρ S'
    | .ex e S' => .ex e ρ S'
    | .un => .un
open Classical in
noncomputable def whM (t : MT) (f : MS) : MS := fun ρ S => if h : ∃ n, whN t f n ρ S ≠ .un then whN t f (Classical.choose h) ρ S else .un
theorem whN_more {t : MT} {f : MS} : ∀ {n k : Nat} {ρ : Env} {S : Sto}, whN t f n ρ S ≠ .un → whN t f (n + k) ρ S = whN t f n ρ S
  | 0, k, ρ, S, h => (h rfl).elim
  | n + 1, k, ρ, S, h => by
    rw [show n + 1 + k = n + k + 1 by omega]
    unfold whN at h ⊢
    split
    · rename_i S' q
      rw [q] at h
      dsimp only at h
      split
      · rename_i q2
        rw [q2] at h
        exact whN_more h
      · rename_i q2
        rw [q2] at h
        exact whN_more h
      · rfl
      · rfl
    · rfl
    · rfl
    · rfl
theorem whM_eq {t : MT} {f : MS} {n : Nat} {ρ : Env} {S : Sto} (h : whN t f n ρ S ≠ .un) : whM t f ρ S = whN t f n ρ S := by
  unfold whM
  have e : ∃ n, whN t f n ρ S ≠ .un := ⟨n, h⟩
  rw [dif_pos e]
  have h2 := Classical.choose_spec e
  rcases Nat.le_total n (Classical.choose e) with q | q
  · obtain ⟨k, hk⟩ := Nat.le.dest q
    rw [← hk, whN_more h]
  · obtain ⟨k, hk⟩ := Nat.le.dest q
    have := whN_more (k := k) h2
    rw [hk] at this
    exact this.symm
section
variable {X : Cx} {T : List (Addr × Str)} {W : WX} {tg iter c : Expr} {body : List Stmt} {gt : MG} {f : MS} {fi : MI} {tc : MT} {pos : Pos}
theorem s_for (hp : PassesOwn (model X.prog X.w) X.A X.env X.xe) (hc : X.calm = true) (hi : PI X tg iter (tI (gOf X T) W fi)) (hg : PG X tg (tG (gOf X T) W gt)) (hb : PSs X body (tS (gOf X T) W f))
    (hs : ∀ x, foldedSetIterable iter X.env x = pure x := by intro _; rfl) : PS X (.For tg iter body [] pos) (tS (gOf X T) W (forM fi gt f)) := ps_mono (ps_for hp hc hi hg hb hs) fun Dn σ H h => by
  obtain ⟨x, m, ρ, S, p, h⟩ := h
  cases q : fi ρ S with
  | un => simp only [forM, q] at h; exact h.elim
  | ex ee S' =>
    refine ⟨x, m, ρ, S, p, ?_⟩
    simp only [forM, q] at h
    rw [q]
    exact fun m' H' cls d E R rx => h m' H' σ cls d E (p.ext E R) rx
  | ok ds S' =>
    refine ⟨x, m, ρ, S, p, ?_⟩
    simp only [forM, q] at h
    rw [q]
    intro m1 H1 E1 R1 J hJ
    have h := PostS.shift E1 h
    have p1 := p.ext E1 R1
    refine ⟨fun i k σ2 H2 => ∃ m2 ρ2 S2, k = ds.length - i ∧ i ≤ ds.length ∧ Ext (gOf X T) m1 H1 m2 H2 ∧ Rp (gOf X T) x m2 H2 ρ2 S2 σ2 ∧ PostS (gOf X T) W x m2 H2 (forL gt f (ds.drop i) ρ2 S2) Dn,
      ⟨ds.length, m1, ρ, S', by simp, Nat.zero_le _, Ext.refl, p1, by rw [List.drop_zero]; exact h⟩, ?_⟩
    rintro i k σ2 H2 ⟨m2, ρ2, S2, rfl, hi', E2, p2, h2⟩
    have hy := hJ x m2 H2 (fun b hb => .inl hb) E2 p2.trk i
    by_cases hl : i < ds.length
    · obtain ⟨hgo, hyl⟩ := hy.1 ds[i] (List.getElem?_eq_getElem hl)
      rw [List.drop_eq_getElem_cons hl] at h2
      refine .inr ⟨hgo, fun σ3 H3 => ∃ m3 ρ3 S3, Ext (gOf X T) m1 H1 m3 H3 ∧ Rp (gOf X T) x m3 H3 ρ3 S3 σ3 ∧ PostS (gOf X T) W x m3 H3 (forL gt f (ds.drop (i + 1)) ρ3 S3) Dn, ?_, ?_⟩
      · rintro σ3 H3 ⟨m3, ρ3, S3, E3, p3, h3⟩
        exact ⟨ds.length - (i + 1), by omega, m3, ρ3, S3, rfl, hl, E3, p3, h3⟩
      · intro v H3 yv
        obtain ⟨E3, k3, r3⟩ := hyl v H3 yv
        have R3 : RS (gOf X T) (x ++ m2) m2 H3 S2 := p2.sto.stay E3 fun a ha => k3 a ha (by obtain ⟨o, q⟩ := p2.sto.live ha; rw [q]; simp)
        have p3 := p2.ext E3 R3
        refine ⟨x, m2, ρ2, S2, .d ds[i], p3, .d r3, ?_⟩
        simp only [forL] at h2
        cases q3 : gt (.d ds[i]) ρ2 S2 with
        | none => rw [q3] at h2; exact h2.elim
        | some q4 =>
          rw [q3] at h2
          refine fun m4 H4 σ4 E4 p4 => ⟨x, m4, q4.1, q4.2, p4, ?_⟩
          have h2 := PostS.shift (E3.trans E4) h2
          have E14 := (E2.trans E3).trans E4
          dsimp only at h2
          cases q5 : f q4.1 q4.2 with
          | nx ρ5 S5 =>
            rw [q5] at h2
            exact fun m5 H5 σ5 E5 p5 => ⟨m5, ρ5, S5, E14.trans E5, p5, PostS.shift E5 h2⟩
          | ct ρ5 S5 =>
            rw [q5] at h2
            exact fun m5 H5 σ5 E5 p5 => ⟨m5, ρ5, S5, E14.trans E5, p5, PostS.shift E5 h2⟩
          | bk ρ5 S5 => rw [q5] at h2; exact h2
          | rt u S5 => rw [q5] at h2; exact h2
          | ex ee ρ5 S5 => rw [q5] at h2; exact h2
          | un => rw [q5] at h2; exact h2
    · have e : i = ds.length := by omega
      refine .inl ⟨hy.2 (by omega), ?_⟩
      rw [e, List.drop_length] at h2
      exact h2 m2 H2 σ2 Ext.refl p2
theorem s_while (hp : PassesOwn (model X.prog X.w) X.A X.env X.xe) (hc : PT X c (tT (gOf X T) W tc)) (hb : PSs X body (tS (gOf X T) W f)) : PS X (.While c body [] pos) (tS (gOf X T) W (whM tc f)) := ps_mono (ps_while hp hc hb) fun Dn σ H h => by
  obtain ⟨x, m, ρ, S, p, h⟩ := h
  have hn : ∃ n, PostS (gOf X T) W x m H (whN tc f n ρ S) Dn := by
    unfold whM at h
    split at h
    · exact ⟨_, h⟩
    · exact h.elim
  obtain ⟨n, h⟩ := hn
  refine ⟨fun k σ2 H2 => ∃ m2 ρ2 S2, Rp (gOf X T) x m2 H2 ρ2 S2 σ2 ∧ PostS (gOf X T) W x m2 H2 (whN tc f k ρ2 S2) Dn, ⟨n, m, ρ, S, p, h⟩, ?_⟩
  rintro k σ2 H2 ⟨m2, ρ2, S2, p2, h2⟩
  refine ⟨x, m2, ρ2, S2, p2, ?_⟩
  cases k with
  | zero => exact h2.elim
  | succ k =>
    unfold whN at h2
    cases q : tc ρ2 S2 with
    | un => rw [q] at h2; exact h2
    | ex ee S' => rw [q] at h2; exact fun m' H' cls d E R rx => h2 m' H' σ2 cls d E (p2.ext E R) rx
    | ok b S' =>
      rw [q] at h2
      intro m3 H3 E3 R3
      have p3 := p2.ext E3 R3
      have h2 := PostS.shift E3 h2
      cases b with
      | false => exact iteF (h2 m3 H3 σ2 Ext.refl p3)
      | true =>
        refine iteT ⟨fun σ4 H4 => ∃ m4 ρ4 S4, Rp (gOf X T) x m4 H4 ρ4 S4 σ4 ∧ PostS (gOf X T) W x m4 H4 (whN tc f k ρ4 S4) Dn, fun σ4 H4 ⟨m4, ρ4, S4, p4, h4⟩ => ⟨k, Nat.lt_succ_self _, m4, ρ4, S4, p4, h4⟩, x, m3, ρ2, S', p3, ?_⟩
        dsimp only at h2
        cases q5 : f ρ2 S' with
        | nx ρ5 S5 => rw [q5] at h2; exact fun m5 H5 σ5 E5 p5 => ⟨m5, ρ5, S5, p5, PostS.shift E5 h2⟩
        | ct ρ5 S5 => rw [q5] at h2; exact fun m5 H5 σ5 E5 p5 => ⟨m5, ρ5, S5, p5, PostS.shift E5 h2⟩
        | bk ρ5 S5 => rw [q5] at h2; exact h2
        | rt u S5 => rw [q5] at h2; exact h2
        | ex ee ρ5 S5 => rw [q5] at h2; exact h2
        | un => rw [q5] at h2; exact h2
end

/-! ### cells that are forgotten -/
def wipeE (ρ : Env) : List Nat → Env
  | [] => ρ
  | i :: is => wipeE (ρ.set i none) is
def lowU (n : Nat) : Option U → Bool
  | some (.c i) => decide (i < n)
  | some (.t _) => false
  | _ => true
def scpM (dead : List Nat) (f : MS) : MS := fun ρ S => match f ρ S with
  | .nx ρ' S' => if (wipeE ρ' dead).all (lowU S.length) then .nx (wipeE ρ' dead) (S'.take S.length) else .un
  | .ct ρ' S' => if (wipeE ρ' dead).all (lowU S.length) then .ct (wipeE ρ' dead) (S'.take S.length) else .un
  | o => o
section
variable {G : Gc} {x m m' : List Addr} {H H' : Hp}
theorem RE.wipe {e : List Addr} : ∀ (is : List Nat) {ρ : Env} {σ : St}, RE G e m H ρ σ → RE G e m H (wipeE ρ is) σ
  | [], _, _, r => r
  | i :: is, _, _, r => RE.wipe is (RE.wipe1 i r)
theorem RE.low {n : Nat} : ∀ {ρ : Env} {σ : St}, RE G (x ++ m) m H ρ σ → ρ.all (lowU n) = true → RE G (x ++ m.take n) (m.take n) H ρ σ
  | _, _, .nil, _ => .nil
  | _, _, .em t, h => .em (RE.low t (by simpa [lowU] using h))
  | _, _, .cns r t, h => by
    rw [List.all_cons, Bool.and_eq_true] at h
    refine .cns ?_ (RE.low t h.2)
    cases r with
    | d r => exact .d (r.keep (keep_sub fun a ha => by
        rcases List.mem_append.mp ha with z | z
        · exact List.mem_append_left _ z
        · exact List.mem_append_right _ (List.mem_of_mem_take z)))
    | @c i a ha =>
      have hi : i < n := by simpa [lowU] using h.1
      exact .c (by rw [List.getElem?_take_of_lt hi]; exact ha)
    | t _ _ => simp [lowU] at h
theorem Rp.low {n : Nat} {ρ : Env} {S : Sto} {σ : St} (p : Rp G x m H ρ S σ) (h : ρ.all (lowU n) = true) : Rp G x (m.take n) H ρ (S.take n) σ := by
  refine ⟨p.env.low h, ⟨by rw [List.length_take, List.length_take, p.sto.len], p.sto.nd.sublist (List.take_sublist _ _), fun b hb => List.mem_append_right _ hb, fun i a c h1 h2 => ?_⟩, p.ex, p.tab⟩
  have hi : i < n := by
    by_cases q : i < n
    · exact q
    · rw [List.getElem?_take_eq_none (by omega)] at h1; cases h1
  rw [List.getElem?_take_of_lt hi] at h1 h2
  obtain ⟨o, q1, q2⟩ := p.sto.at' i a c h1 h2
  exact ⟨o, q1, q2.keep (keep_sub fun a ha => by
    rcases List.mem_append.mp ha with z | z
    · exact List.mem_append_left _ z
    · exact List.mem_append_right _ (List.mem_of_mem_take z)) fun _ _ z => z⟩
theorem Ext.take {S : Sto} {e : List Addr} (E : Ext G m H m' H') (r : RS G e m H S) : Ext G m H (m'.take S.length) H' := by
  obtain ⟨nw, e1, f1⟩ := E.pre
  refine ⟨E.keep, E.tups, E.frzs, E.owns, E.live, ⟨[], ?_, fun _ z => by cases z⟩, E.tab⟩
  rw [e1, ← r.len, List.take_left', List.append_nil]
  rfl
end
section
variable {X : Cx} {T : List (Addr × Str)} {W : WX} {body : List Stmt} {f : MS}
theorem s_scp (dead : List Nat) (hb : PSs X body (tS (gOf X T) W f)) : PSs X body (tS (gOf X T) W (scpM dead f)) := pss_mono hb fun Dn σ H h => by
  obtain ⟨x, m, ρ, S, p, h⟩ := h
  refine ⟨x, m, ρ, S, p, ?_⟩
  unfold scpM at h
  cases q : f ρ S with
  | nx ρ' S' =>
    rw [q] at h
    dsimp only at h
    split at h
    · rename_i hl
      intro m' H' σ' E1 p1
      have p2 : Rp (gOf X T) x m' H' (wipeE ρ' dead) S' σ' := ⟨p1.env.wipe dead, p1.sto, p1.ex, p1.tab⟩
      exact h (m'.take S.length) H' σ' (E1.take p.sto) (p2.low hl)
    · exact h.elim
  | ct ρ' S' =>
    rw [q] at h
    dsimp only at h
    split at h
    · rename_i hl
      intro m' H' σ' E1 p1
      have p2 : Rp (gOf X T) x m' H' (wipeE ρ' dead) S' σ' := ⟨p1.env.wipe dead, p1.sto, p1.ex, p1.tab⟩
      exact h (m'.take S.length) H' σ' (E1.take p.sto) (p2.low hl)
    · exact h.elim
  | rt u S' => rw [q] at h; exact h
  | bk ρ' S' => rw [q] at h; exact h
  | ex e ρ' S' => rw [q] at h; exact h
  | un => rw [q] at h; exact h
end
end Mir

/-! Mir11: list comprehensions. -/
namespace Mir
open PySem PySem.Spec PyProof.Rows L2 RZ
inductive Tg where
  | one (i : Nat) | many (is : List Nat)
def Tg.ix : Tg → List Nat
  | .one i => [i]
  | .many is => is
def setMany : List Nat → List D → Env → Option Env
  | [], [], ρ => some ρ
  | i :: is, d :: ds, ρ => setMany is ds (ρ.set i (some (.d d)))
  | _, _, _ => none
def setT : Tg → D → Env → Option Env
  | .one i, d, ρ => some (ρ.set i (some (.d d)))
  | .many is, .tup ds, ρ => setMany is ds ρ
  | _, _, _ => none
def gNames : List Nat → TGs
  | [] => gNil
  | i :: is => gCons (gName i) (gNames is)
def gT (K : PySem.W.Frag) : Tg → TG
  | .one i => gName i
  | .many is => gTup K is.length (gNames is)
/-- a list made by a comprehension: t tests, f makes -/
def lcL (tg : Tg) (t : MT) (f : ME) (ρ0 : Env) : List D → Sto → O (List D)
  | [], S => .ok [] S
  | d :: ds, S => match setT tg d ρ0 with
    | none => .un
    | some ρ => match t ρ S with
      | .ok true S1 => match f ρ S1 with
        | .ok (.d y) S2 => match lcL tg t f ρ0 ds S2 with
          | .ok ys S3 => .ok (y :: ys) S3
          | _ => .un
        | _ => .un
      | .ok false S1 => lcL tg t f ρ0 ds S1
      | _ => .un
def lcM (it : MI) (tg : Tg) (t : MT) (f : ME) (own : List Nat) : ME := fun ρ S => (it ρ S).bind fun ds S1 =>
  if ds.length ≤ big then match lcL tg t f (wipeE ρ own) ds S1 with
    | .ok ys S2 => .ok (.d (.lst ys)) S2
    | _ => .un
  else .un
def yesM : MT := fun _ S => .ok true S
abbrev WF : WX := fun _ _ _ _ => False

section
variable {G : Gc} {e m x : List Addr} {H : Hp}
theorem wipe_set {own : List Nat} {i : Nat} {o : Option V} : ∀ {σ : St}, i ∈ own → L2.wipe (σ.set i o) own = L2.wipe σ own := by
  intro σ h
  have key : ∀ (own : List Nat) (σ : St) (i : Nat) (o : Option V), L2.wipe (σ.set i o) own = if i ∈ own then L2.wipe σ own else (L2.wipe σ own).set i o := by
    intro own
    induction own with
    | nil => intro σ i o; simp [L2.wipe]
    | cons v vs ih =>
      intro σ i o
      unfold L2.wipe
      rw [ih σ i o]
      by_cases h1 : i ∈ vs
      · rw [if_pos h1, if_pos (List.mem_cons_of_mem _ h1)]
      · rw [if_neg h1]
        by_cases h2 : i = v
        · subst h2
          rw [if_pos List.mem_cons_self, List.set_set]
        · rw [if_neg (by simp [h1, h2]), List.set_comm _ _ h2]
  rw [key, if_pos h]
theorem many_ok : ∀ {is : List Nat} {ds : List D} {vs : List V} {ρ ρ' : Env} {σ : St} {own : List Nat} {Q : St → Hp → Prop}, RVs G e H ds vs → RE G e m H ρ σ → setMany is ds ρ = some ρ' → (∀ i ∈ is, i ∈ own) →
    (∀ σ', RE G e m H ρ' σ' → L2.wipe σ' own = L2.wipe σ own → Q σ' H) → gNames is vs σ H Q
  | [], [], _, ρ, ρ', σ, own, Q, .nil, re, h, _, q => by
    cases h
    exact ⟨rfl, q σ re rfl⟩
  | i :: is, d :: ds, _, ρ, ρ', σ, own, Q, .cons r t, re, h, ho, q =>
    ⟨_, _, rfl, many_ok t (RE.set (.d r) i re) h (fun j hj => ho j (List.mem_cons_of_mem _ hj)) fun σ' re' hw => q σ' re' (by rw [hw, wipe_set (ho i List.mem_cons_self)])⟩
  | [], _ :: _, _, _, _, _, _, _, _, _, h, _, _ => by simp [setMany] at h
  | _ :: _, [], _, _, _, _, _, _, _, _, h, _, _ => by simp [setMany] at h
theorem setMany_len : ∀ {is : List Nat} {ds : List D} {ρ ρ' : Env}, setMany is ds ρ = some ρ' → ds.length = is.length
  | [], [], _, _, _ => rfl
  | i :: is, d :: ds, _, _, h => by simp [setMany_len (is := is) (ds := ds) h]
  | [], _ :: _, _, _, h => by simp [setMany] at h
  | _ :: _, [], _, _, h => by simp [setMany] at h
theorem tg_ok {tg : Tg} {d : D} {v : V} {ρ ρ' : Env} {σ : St} {own : List Nat} {Q : St → Hp → Prop} (r : RV G e H d v) (re : RE G e m H ρ σ) (h : setT tg d ρ = some ρ') (ho : ∀ i ∈ tg.ix, i ∈ own)
    (q : ∀ σ', RE G e m H ρ' σ' → L2.wipe σ' own = L2.wipe σ own → Q σ' H) : gT G.K tg v σ H Q := by
  cases tg with
  | one i =>
    cases h
    exact q _ (RE.set (.d r) i re) (wipe_set (ho i (by simp [Tg.ix])))
  | many is =>
    cases r with
    | tup h1 h2 => exact ⟨_, _, rfl, h1, by rw [← h2.len]; exact setMany_len h, many_ok h2 re h ho q⟩
    | _ => simp [setT] at h
theorem RE.wipeS {e m : List Addr} : ∀ (is : List Nat) {ρ : Env} {σ : St}, RE G e m H ρ σ → RE G e m H (wipeE ρ is) (L2.wipe σ is) := by
  have one : ∀ {ρ : Env} {σ : St} (i : Nat), RE G e m H ρ σ → RE G e m H (ρ.set i none) (σ.set i none) := by
    intro ρ σ i r
    induction r generalizing i with
    | nil => exact .nil
    | em t ih => cases i with
      | zero => exact .em t
      | succ i => exact .em (ih i)
    | cns r t ih => cases i with
      | zero => exact .em t
      | succ i => exact .cns r (ih i)
  have two : ∀ (is : List Nat) (i : Nat) (ρ : Env), (wipeE ρ is).set i none = wipeE (ρ.set i none) is := by
    intro is
    induction is with
    | nil => intro i ρ; rfl
    | cons j is ih =>
      intro i ρ
      unfold wipeE
      rw [ih]
      by_cases h : i = j
      · subst h; rfl
      · rw [List.set_comm _ _ h]
  intro is
  induction is with
  | nil => intro ρ σ r; exact r
  | cons i is ih =>
    intro ρ σ r
    unfold L2.wipe wipeE
    rw [← two]
    exact one i (ih r)
/-- the list that grows is kept apart -/
theorem Keep.hide {D₀ : Addr} {o : HO} (h : H D₀ = none) : Keep G e H (D₀ :: e) (upd H D₀ o) := by
  have ni : ∀ {a : Addr} {u : HO}, H a = some u → a ∉ e → a ∉ D₀ :: e := fun {a u} q n z => by
    rcases List.mem_cons.mp z with z | z
    · rw [z, h] at q; cases q
    · exact n z
  refine ⟨fun a xs q => sqt_new h q, fun a ns q => Sc.ext (G := G) (m := []) (m' := []) (Ext.new h) q, fun a xs q n => ⟨by rw [upd_ne (ne_of_none q h)]; exact q, ni q n⟩, fun a u t ks xs q n r => ⟨by rw [upd_ne (ne_of_none q h)]; exact q, ni q n, r.ext fun _ _ z => sqt_new h z⟩, fun a φ q n => ⟨by rw [upd_ne (ne_of_none q h)]; exact q, ni q n⟩⟩
theorem Keep.grow {D₀ : Addr} {acc acc' : List V} (h : H D₀ = some (.lst acc)) (hd : D₀ ∈ e) : Keep G e H e (upd H D₀ (.lst acc')) := by
  have ne : ∀ {a : Addr}, a ∉ e → a ≠ D₀ := fun {a} n z => n (z ▸ hd)
  refine ⟨fun a xs q => ?_, fun a xs q => ?_, fun a xs q n => ⟨by rw [upd_ne (ne n)]; exact q, n⟩, fun a u t ks xs q n r => ⟨by rw [upd_ne (ne n)]; exact q, n, r.ext fun b ys z => ?_⟩, fun a φ q n => ⟨by rw [upd_ne (ne n)]; exact q, n⟩⟩
  · rcases q with (q | ⟨o, q⟩) | q
    · exact .inl (.inl (by rw [upd_ne (fun z => by rw [z, h] at q; cases q)]; exact q))
    · exact .inl (.inr ⟨o, by rw [upd_ne (fun z => by rw [z, h] at q; cases q)]; exact q⟩)
    · exact .inr q
  · rcases q with ⟨o, q⟩ | q
    · exact .inl ⟨o, by rw [upd_ne (fun z => by rw [z, h] at q; cases q)]; exact q⟩
    · exact .inr q
  · rcases z with (q | ⟨o, q⟩) | q
    · exact .inl (.inl (by rw [upd_ne (fun z => by rw [z, h] at q; cases q)]; exact q))
    · exact .inl (.inr ⟨o, by rw [upd_ne (fun z => by rw [z, h] at q; cases q)]; exact q⟩)
    · exact .inr q
theorem RW.keep' {m : List Addr} {e' : List Addr} {H' : Hp} (k : Keep G e H e' H') : ∀ {us : List (D ⊕ Nat)} {vs : List V}, RW G e m H us vs → RW G e' m H' us vs
  | _, _, .nil => .nil
  | _, _, .d r t => .d (r.keep k) (RW.keep' k t)
  | _, _, .c h t => .c h (RW.keep' k t)
theorem RE.keep {m : List Addr} {e' : List Addr} {H' : Hp} (k : Keep G e H e' H') : ∀ {ρ : Env} {σ : St}, RE G e m H ρ σ → RE G e' m H' ρ σ
  | _, _, .nil => .nil
  | _, _, .em t => .em (RE.keep k t)
  | _, _, .cns r t => .cns (by cases r with
    | d r => exact .d (r.keep k)
    | c h => exact .c h
    | t h r => exact .t (k.tup _ _ h) (r.keep' k)) (RE.keep k t)
theorem RS.keep {m : List Addr} {e' : List Addr} {H' : Hp} {S : Sto} (k : Keep G e H e' H') (r : RS G e m H S) (hi : ∀ b ∈ m, b ∈ e') (ha : ∀ a ∈ m, H' a = H a) (ho : ∀ b y, H b = some (.own y) → H' b = some (.own y)) : RS G e' m H' S :=
  ⟨r.len, r.nd, hi, fun i a c h1 h2 => by
    obtain ⟨o, q1, q2⟩ := r.at' i a c h1 h2
    exact ⟨o, by rw [ha a (List.mem_of_getElem? h1)]; exact q1, q2.keep k ho⟩⟩
theorem Ext.grow {m' : List Addr} {H0 H' : Hp} {D₀ : Addr} {acc acc' : List V} (E : Ext G m H0 m' H') (h0 : H0 D₀ = none) (h : H' D₀ = some (.lst acc)) : Ext G m H0 m' (upd H' D₀ (.lst acc')) := by
  have ne : ∀ {b : Addr} {o : HO}, H0 b = some o → b ≠ D₀ := fun {b o} q z => by rw [z, h0] at q; cases q
  refine ⟨fun b o q n t => by rw [upd_ne (ne q)]; exact E.keep b o q n t, fun b xs q => by rw [upd_ne (ne q)]; exact E.tups b xs q, fun b o u q => by rw [upd_ne (ne q)]; exact E.frzs b o u q,
    fun b a q => by rw [upd_ne (ne q)]; exact E.owns b a q, fun b q => by
      obtain ⟨o, q1, q2⟩ := E.live b q
      by_cases z : b = D₀
      · rw [z]; exact ⟨_, upd_same, fun ps z => by cases z⟩
      · exact ⟨o, by rw [upd_ne z]; exact q1, q2⟩, E.pre, fun t p hp => ?_⟩
  obtain ⟨ps, g1, g2, g3⟩ := E.tab t p hp
  refine ⟨ps, by rw [upd_ne (fun z => by rw [z, h] at g1; cases g1)]; exact g1, g2, fun pos cv hc => ?_⟩
  obtain ⟨c, g4, g5⟩ := g3 pos cv hc
  exact ⟨c, g4, by rw [upd_ne (fun z => by rw [z, h] at g5; cases g5)]; exact g5⟩
end

theorem wipe_idem (own : List Nat) : ∀ σ : St, L2.wipe (L2.wipe σ own) own = L2.wipe σ own := by
  have key : ∀ (vs own : List Nat) (σ : St), (∀ i ∈ vs, i ∈ own) → L2.wipe (L2.wipe σ vs) own = L2.wipe σ own := by
    intro vs
    induction vs with
    | nil => intro own σ _; rfl
    | cons v vs ih =>
      intro own σ h
      show L2.wipe ((L2.wipe σ vs).set v none) own = _
      rw [wipe_set (h v List.mem_cons_self)]
      exact ih own σ fun i hi => h i (List.mem_cons_of_mem _ hi)
  exact fun σ => key own own σ fun _ h => h
section
variable {X : Cx} {T : List (Addr × Str)} {W : WX}
theorem ts_nil : PTs X [] (tT (gOf X T) W yesM) := ⟨fun pins s σ H Q I h => pts_nil.run pins s σ H Q I (by
  obtain ⟨x, m, ρ, S, p, h⟩ := h
  exact h m H Ext.refl p.sto)⟩
theorem ts_one {c : Expr} {t : MT} (h : PT X c (tT (gOf X T) W t)) : PTs X [c] (tT (gOf X T) W t) := pts_one h
theorem lc_red {fi : MI} {t : MT} {f : ME} {tgt : Tg} {own : List Nat} (ho : ∀ i ∈ tgt.ix, i ∈ own) {σ : St} {H : Hp} {Q : VK} (h : tE (gOf X T) W (lcM fi tgt t f own) σ H Q) :
    tLc (tI (gOf X T) W fi) (gT X.K tgt) (tT (gOf X T) WF t) (tE (gOf X T) WF f) own σ H Q := by
  obtain ⟨x, m, ρ, S, p, h⟩ := h
  refine ⟨x, m, ρ, S, p, (Post.bind h).mono fun ds S1 m1 H1 E1 R1 ⟨_, _, h1⟩ J hJ => fun D₀ hD => ?_⟩
  have p1 := p.ext E1 R1
  split at h1
  case isFalse => exact h1.elim
  case isTrue hbig =>
  cases hL : lcL tgt t f (wipeE ρ own) ds S1 with
  | un => rw [hL] at h1; exact h1.elim
  | ex ee S' => rw [hL] at h1; exact h1.elim
  | ok ys Sf =>
    rw [hL] at h1
    refine ⟨fun i k H2 => ∃ m2 S2 acc vacc rest, k = ds.length - i ∧ i ≤ ds.length ∧ Ext (gOf X T) m1 H1 m2 H2 ∧ Rp (gOf X T) (D₀ :: x) m2 H2 (wipeE ρ own) S2 (L2.wipe σ own) ∧ H2 D₀ = some (.lst vacc) ∧
      RVs (gOf X T) (D₀ :: x ++ m2) H2 acc vacc ∧ vacc.length ≤ i ∧ lcL tgt t f (wipeE ρ own) (ds.drop i) S2 = .ok rest Sf ∧ ys = acc ++ rest ∧ D₀ ∉ m2,
      ⟨ds.length, m1, S1, [], [], ys, by simp, Nat.zero_le _, Ext.new hD, ⟨(RE.wipeS own p1.env).keep (Keep.hide hD), R1.keep (Keep.hide hD) (fun b hb => List.mem_cons_of_mem _ (List.mem_append_right _ hb)) (fun a ha => by
          obtain ⟨u, q⟩ := R1.live ha
          rw [upd_ne (ne_of_none q hD)]) (fun b y q => by rw [upd_ne (ne_of_none q hD)]; exact q), fun b hb => ?_, p1.tab.ext fun b u q => by rw [upd_ne (ne_of_none q hD)]; exact q⟩, upd_same, .nil, Nat.zero_le _, by rw [List.drop_zero]; exact hL, rfl, fun z => by
          obtain ⟨u, q⟩ := R1.live z
          rw [hD] at q; cases q⟩, ?_⟩
    · rcases List.mem_cons.mp hb with z | z
      · rw [z]; exact ⟨_, upd_same, fun ps z => by cases z⟩
      · obtain ⟨u, q, qn⟩ := p1.ex b z
        exact ⟨u, by rw [upd_ne (ne_of_none q hD)]; exact q, qn⟩
    rintro i k H2 ⟨m2, S2, acc, vacc, rest, rfl, hi, E2, p2, hd2, r2, hv, hl, hy, nD⟩
    have hY := hJ (D₀ :: x) m2 H2 (fun b hb => by
      rcases List.mem_cons.mp hb with z | z
      · exact .inr (by rw [z]; exact hD)
      · exact .inl z) E2 p2.trk i
    by_cases hlt : i < ds.length
    · obtain ⟨hgo, hyl⟩ := hY.1 ds[i] (List.getElem?_eq_getElem hlt)
      rw [List.drop_eq_getElem_cons hlt] at hl
      simp only [lcL] at hl
      refine .inr ⟨hgo, fun H3 => ∃ m3 S3 acc vacc rest, Ext (gOf X T) m1 H1 m3 H3 ∧ Rp (gOf X T) (D₀ :: x) m3 H3 (wipeE ρ own) S3 (L2.wipe σ own) ∧ H3 D₀ = some (.lst vacc) ∧
        RVs (gOf X T) (D₀ :: x ++ m3) H3 acc vacc ∧ vacc.length ≤ i + 1 ∧ lcL tgt t f (wipeE ρ own) (ds.drop (i + 1)) S3 = .ok rest Sf ∧ ys = acc ++ rest ∧ D₀ ∉ m3,
        fun H3 ⟨m3, S3, acc, vacc, rest, a1, a2, a3, a4, a5, a6, a7, a8⟩ => ⟨ds.length - (i + 1), by omega, m3, S3, acc, vacc, rest, rfl, hlt, a1, a2, a3, a4, a5, a6, a7, a8⟩, fun v H3 yv => ?_⟩
      obtain ⟨E3, k3, r3⟩ := hyl v H3 yv
      have R3 : RS (gOf X T) (D₀ :: x ++ m2) m2 H3 S2 := p2.sto.stay E3 fun a ha => k3 a ha (by obtain ⟨o, q⟩ := p2.sto.live ha; rw [q]; simp)
      have p3 := p2.ext E3 R3
      cases hs : setT tgt ds[i] (wipeE ρ own) with
      | none => rw [hs] at hl; cases hl
      | some ρ' =>
        rw [hs] at hl
        dsimp only at hl
        refine tg_ok r3 p3.env hs ho fun σ' re' hw => ⟨by rw [hw, wipe_idem], ?_⟩
        have q3 : Rp (gOf X T) (D₀ :: x) m2 H3 ρ' S2 σ' := ⟨re', R3, p3.ex, p3.tab⟩
        have nD' : ∀ {m m' : List Addr} {H H' : Hp}, Ext (gOf X T) m H m' H' → D₀ ∉ m → Nt H D₀ → D₀ ∉ m' := fun E n q z => by
          obtain ⟨nw, e1, f1⟩ := E.pre
          rw [e1] at z
          rcases List.mem_append.mp z with z | z
          · exact n z
          · exact f1 _ z q
        have d3 : H3 D₀ = some (.lst vacc) := E3.keep _ _ hd2 nD (fun ps z => by cases z)
        refine ⟨D₀ :: x, m2, ρ', S2, q3, ?_⟩
        cases ht : t ρ' S2 with
        | un => rw [ht] at hl; cases hl
        | ex ee S' => rw [ht] at hl; cases hl
        | ok b S3 =>
          rw [ht] at hl
          intro m4 H4 E4 R4
          have q4 := q3.ext E4 R4
          have d4 : H4 D₀ = some (.lst vacc) := E4.keep _ _ d3 nD (fun ps z => by cases z)
          have n4 := nD' E4 nD ⟨_, d3, fun ps z => by cases z⟩
          cases b with
          | false =>
            refine iteF ⟨m4, S3, acc, vacc, rest, (E2.trans E3).trans E4, ⟨(p3.ext E4 R4).env, R4, (p3.ext E4 R4).ex, (p3.ext E4 R4).tab⟩, d4, r2.keep ((E3.trans E4).kp), by omega, hl, hy, n4⟩
          | true =>
            refine iteT ⟨D₀ :: x, m4, ρ', S3, q4, ?_⟩
            dsimp only at hl
            cases hf : f ρ' S3 with
            | un => rw [hf] at hl; cases hl
            | ex ee S' => rw [hf] at hl; cases hl
            | ok u S4 =>
              rw [hf] at hl
              cases u with
              | c j => cases hl
              | t j => cases hl
              | d y =>
                dsimp only at hl
                cases hr : lcL tgt t f (wipeE ρ own) (ds.drop (i + 1)) S4 with
                | un => rw [hr] at hl; cases hl
                | ex ee S' => rw [hr] at hl; cases hl
                | ok rest' S5 =>
                  rw [hr] at hl
                  cases hl
                  intro m5 H5 E5 R5 w rw'
                  have d5 : H5 D₀ = some (.lst vacc) := E5.keep _ _ d4 n4 (fun ps z => by cases z)
                  have n5 := nD' E5 n4 ⟨_, d4, fun ps z => by cases z⟩
                  have E35 := (E3.trans E4).trans E5
                  have p5 := p2.ext E35 R5
                  have kg : Keep (gOf X T) (D₀ :: x ++ m5) H5 (D₀ :: x ++ m5) (upd H5 D₀ (.lst (vacc ++ [w]))) := Keep.grow d5 List.mem_cons_self
                  refine ⟨vacc, d5, Nat.lt_of_le_of_lt hv (Nat.lt_of_lt_of_le hlt (big_ok hbig)), m5, S4, acc ++ [y], vacc ++ [w], rest', (E2.trans E35).grow hD d5, ⟨p5.env.keep kg, R5.keep kg (fun b hb => List.mem_append_right _ hb) (fun a ha => upd_ne fun z => n5 (z ▸ ha)) (fun b y q => by
                      rw [upd_ne (fun z => by rw [z, d5] at q; cases q)]; exact q), fun b hb => ?_, ?_⟩, upd_same, ?_, by simp; omega, hr, by rw [hy]; simp, n5⟩
                  · by_cases z : b = D₀
                    · rw [z]; exact ⟨_, upd_same, fun ps z => by cases z⟩
                    · obtain ⟨o, q, qn⟩ := p5.ex b hb
                      exact ⟨o, by rw [upd_ne z]; exact q, qn⟩
                  · exact ((E2.trans E35).grow hD d5).tab p1.tab
                  · refine (RVs.append (r2.keep E35.kp) (.cons ?_ .nil)).keep kg
                    cases rw' with
                    | d r => exact r
    · have e : i = ds.length := by omega
      rw [e, List.drop_length] at hl
      cases hl
      rw [List.append_nil] at hy
      subst hy
      refine .inl ⟨hY.2 (by omega), ?_⟩
      have ks : Keep (gOf X T) (D₀ :: x ++ m2) H2 (x ++ m2) H2 := keep_sub fun a ha => List.mem_cons_of_mem _ ha
      refine h1 m2 H2 E2 (p2.sto.keep ks (fun b hb => List.mem_append_right _ hb) (fun _ _ => rfl) fun _ _ q => q) _ (.d (.lst hd2 (fun z => ?_) (r2.keep ks)))
      rcases List.mem_append.mp z with z | z
      · obtain ⟨o, q, _⟩ := p1.ex _ z
        rw [hD] at q; cases q
      · exact nD z
variable {elt tg iter : Expr} {ifs : List Expr} {scope : Scope} {own : List (Str × Nat)} {pos spos : Pos} {fi : MI} {t : MT} {f : ME}
theorem e_lc (tgt : Tg) (own : List (Str × Nat)) (hc : X.calm = true) (hN : X.N.Nodup) (hi : PI X tg iter (tI (gOf X T) W fi)) (ok : BlkOk X.N X.env.scope scope own)
    (hg : ∀ (s : Shared) (H : Hp) (C : Addr) (cl : List (Str × Addr)) (fp : List Addr), PG (X.blk s H scope (compEnvC scope cl C X.env) fp) tg (gT X.K tgt))
    (ht : ∀ (s : Shared) (H : Hp) (C : Addr) (cl : List (Str × Addr)) (fp : List Addr), Takes (X.blk s H scope (compEnvC scope cl C X.env) fp) WF → PTs (X.blk s H scope (compEnvC scope cl C X.env) fp) ifs (tT (gOf (X.blk s H scope (compEnvC scope cl C X.env) fp) T) WF t))
    (he : ∀ (s : Shared) (H : Hp) (C : Addr) (cl : List (Str × Addr)) (fp : List Addr), Takes (X.blk s H scope (compEnvC scope cl C X.env) fp) WF → PE (X.blk s H scope (compEnvC scope cl C X.env) fp) elt (tE (gOf (X.blk s H scope (compEnvC scope cl C X.env) fp) T) WF f))
    (ho : ∀ i ∈ tgt.ix, i ∈ own.map (·.2)) (hs : ∀ x, foldedSetIterable iter X.env x = pure x := by intro _; rfl) : PE X (.ListComp elt [⟨tg, iter, ifs, 0⟩] scope pos) (tE (gOf X T) W (lcM fi tgt t f (own.map (·.2)))) :=
  pe_mono (pe_lc hc hN hi ok hg (fun s H C cl fp => ht s H C cl fp takes0) (fun s H C cl fp => he s H C cl fp takes0) hs) fun σ H Q h => lc_red ho h
theorem s_lc (i : Nat) (tgt : Tg) (own : List (Str × Nat)) {y : Str} {py : Pos} (hc : X.calm = true) (hN : X.N.Nodup) (hi : PI X tg iter (tI (gOf X T) W fi)) (ok : BlkOk X.N X.env.scope scope own)
    (hg : ∀ (s : Shared) (H : Hp) (C : Addr) (cl : List (Str × Addr)) (fp : List Addr), PG (X.blk s H scope (compEnvC scope cl C X.env) fp) tg (gT X.K tgt))
    (ht : ∀ (s : Shared) (H : Hp) (C : Addr) (cl : List (Str × Addr)) (fp : List Addr), Takes (X.blk s H scope (compEnvC scope cl C X.env) fp) WF → PTs (X.blk s H scope (compEnvC scope cl C X.env) fp) ifs (tT (gOf (X.blk s H scope (compEnvC scope cl C X.env) fp) T) WF t))
    (he : ∀ (s : Shared) (H : Hp) (C : Addr) (cl : List (Str × Addr)) (fp : List Addr), Takes (X.blk s H scope (compEnvC scope cl C X.env) fp) WF → PE (X.blk s H scope (compEnvC scope cl C X.env) fp) elt (tE (gOf (X.blk s H scope (compEnvC scope cl C X.env) fp) T) WF f))
    (ho : ∀ i ∈ tgt.ix, i ∈ own.map (·.2)) (hsw : swapsWith (.ListComp elt [⟨tg, iter, ifs, 0⟩] scope pos) (some (.Name y py)) spos.line X.env = pure true) (hy : X.N[i]? = some y := by rfl) (hyl : X.env.scope.names.lookup y = some .local := by rfl) (hs : ∀ x, foldedSetIterable iter X.env x = pure x := by intro _; rfl) :
    PS X (.Assign [.Name y py] (.ListComp elt [⟨tg, iter, ifs, 0⟩] scope pos) spos) (tS (gOf X T) W (asgM (lcM fi tgt t f (own.map (·.2))) (namG i))) :=
  ps_mono (ps_setLc hc hN hy hyl hsw hi ok hg (fun s H C cl fp => ht s H C cl fp takes0) (fun s H C cl fp => he s H C cl fp takes0) hs) fun Dn σ H h => by
    refine lc_red (W := W) (f := f) (t := t) ho ?_
    obtain ⟨x, m, ρ, S, p, h⟩ := h
    refine ⟨x, m, ρ, S, p, (Post.toS h p).mono fun u S1 m1 H1 E1 R1 ⟨_, _, h1⟩ v rv => ?_⟩
    have p1 := p.ext E1 R1
    exact h1 m1 H1 _ Ext.refl ⟨p1.env.set rv i, p1.sto, p1.ex, p1.tab⟩
end
end Mir

/-! Mir12: several names at once; raise. -/
namespace Mir
open PySem PySem.Spec PyProof.Rows L2 RZ
def setUs : List Nat → List U → Env → Env
  | i :: is, u :: us, ρ => setUs is us (ρ.set i (some u))
  | _, _, ρ => ρ
def parsM (is : List Nat) (fs : List ME) : MS := fun ρ S => match argsM fs ρ S with
  | .ok us S' => if us.length = is.length then .nx (setUs is us ρ) S' else .un
  | .ex e S' => .ex e ρ S'
  | .un => .un
section
variable {G : Gc} {e m : List Addr} {H : Hp}
theorem us_ok : ∀ {is : List Nat} {us : List U} {vs : List V} {ρ : Env} {σ : St} {Q : St → Hp → Prop}, RUs G e m H us vs → RE G e m H ρ σ → us.length = is.length → (∀ σ', RE G e m H (setUs is us ρ) σ' → Q σ' H) → gNames is vs σ H Q
  | [], [], _, ρ, σ, Q, .nil, re, _, q => ⟨rfl, q σ re⟩
  | i :: is, u :: us, _, ρ, σ, Q, .cons r t, re, h, q => ⟨_, _, rfl, us_ok t (RE.set r i re) (by simpa using h) q⟩
  | [], _ :: _, _, _, _, _, _, _, h, _ => by simp at h
  | _ :: _, [], _, _, _, _, _, _, h, _ => by simp at h
end
section
variable {X : Cx} {T : List (Addr × Str)} {W : WX} {es ts : List Expr} {fs : List ME} {is : List Nat} {pos pt pt2 : Pos} {kt k2 : Nat}
theorem gns_nil : PGs X [] (gNames []) := pgs_nil
theorem gns_cons {i : Nat} {e : Expr} (h1 : PG X e (gName i)) (h2 : PGs X es (gNames is)) (hs : (assignEach (e :: es) X.env).map (·.2) = assign e X.env :: (assignEach es X.env).map (·.2) := by rfl) : PGs X (e :: es) (gNames (i :: is)) := pgs_cons h1 h2 hs
/-- a tuple of names, a tuple of values: no exchange -/
theorem s_par (is : List Nat) (hc : X.calm = true) (ha : PA X es (tA (gOf X T) W (argsM fs))) (hg : PGs X ts (gNames is)) (hl : Nat.ble fs.length 1000 = true := by rfl) (hn : (assignEach ts X.env).length = is.length := by rfl) (hst : (assignEach ts X.env).findIdx? (·.1) = none := by rfl)
    (hs : swapsWithSole [.Tuple ts kt pt] (.Tuple es k2 pt2) pos.line X.env = pure false := by rfl) (hw : swappedStores [.Tuple ts kt pt] (.Tuple es k2 pt2) X.env = pure none := by rfl)
    (h1 : (assignEach [.Tuple ts kt pt] X.env).map (·.2) = [assign (.Tuple ts kt pt) X.env] := by rfl) : PS X (.Assign [.Tuple ts kt pt] (.Tuple es k2 pt2) pos) (tS (gOf X T) W (parsM is fs)) := ps_mono (ps_asg (pe_tup ha) (pg_tup hc hg hn hst) hs hw h1) fun Dn σ H h => by
  obtain ⟨x, m, ρ, S, p, h⟩ := h
  cases q : argsM fs ρ S with
  | un => simp only [parsM, q] at h; exact h.elim
  | ex ee S' =>
    refine ⟨x, m, ρ, S, p, ?_⟩
    simp only [parsM, q] at h
    rw [q]
    exact fun m' H' cls d E R rx => h m' H' σ cls d E (p.ext E R) rx
  | ok us S' =>
    refine ⟨x, m, ρ, S, p, ?_⟩
    rw [q]
    intro m1 H1 E1 R1 vs rvs
    have p1 := p.ext E1 R1
    have hn' : vs.length = fs.length := by rw [← RUs.length rvs, argsM_len q]
    refine ⟨Nat.le_of_lt (small1000 (by rw [hn']; exact Nat.le_of_ble_eq_true hl)), fun a np => ?_⟩
    simp only [parsM, q] at h
    split at h
    · rename_i hlen
      have E2 : Ext (gOf X T) m1 H1 m1 (upd H1 a (.tup vs)) := Ext.new np
      have p2 := p1.ext E2 (R1.new np)
      refine ⟨a, vs, rfl, .inl (.inl upd_same), by rw [← RUs.length rvs]; exact hlen, us_ok (rvs.ext E2) p2.env hlen fun σ' re => ?_⟩
      exact h m1 _ σ' (E1.trans E2) ⟨re, p2.sto, p2.ex, p2.tab⟩
    · exact h.elim
/-- two local names on a line: the stores are exchanged -/
theorem s_par2 (i j : Nat) {x y : Str} {a b : Expr} {px py : Pos} (hc : X.calm = true) (hN : X.N.Nodup) (ha : PA X [a, b] (tA (gOf X T) W (argsM fs))) (hij : i ≠ j := by decide) (hi : X.N[i]? = some x := by rfl) (hj : X.N[j]? = some y := by rfl)
    (hx : X.env.scope.names.lookup x = some .local := by rfl) (hy : X.env.scope.names.lookup y = some .local := by rfl)
    (hw : swappedStores [.Tuple [.Name x px, .Name y py] kt pt] (.Tuple [a, b] k2 pt2) X.env = pure (some [x, y]) := by rfl)
    (hs : swapsWithSole [.Tuple [.Name x px, .Name y py] kt pt] (.Tuple [a, b] k2 pt2) pos.line X.env = pure false := by rfl) :
    PS X (.Assign [.Tuple [.Name x px, .Name y py] kt pt] (.Tuple [a, b] k2 pt2) pos) (tS (gOf X T) W (parsM [i, j] fs)) := ps_mono (ps_par hc hN hi hj hij hx hy ha hw hs) fun Dn σ H h => by
  obtain ⟨x, m, ρ, S, p, h⟩ := h
  cases q : argsM fs ρ S with
  | un => simp only [parsM, q] at h; exact h.elim
  | ex ee S' =>
    refine ⟨x, m, ρ, S, p, ?_⟩
    simp only [parsM, q] at h
    rw [q]
    exact fun m' H' cls d E R rx => h m' H' σ cls d E (p.ext E R) rx
  | ok us S' =>
    refine ⟨x, m, ρ, S, p, ?_⟩
    rw [q]
    intro m1 H1 E1 R1 vs rvs
    have p1 := p.ext E1 R1
    simp only [parsM, q] at h
    split at h
    · rename_i hlen
      cases rvs with
      | nil => simp at hlen
      | cons r t => cases t with
        | nil => simp at hlen
        | cons r' t => cases t with
          | nil => exact ⟨_, _, rfl, h m1 H1 _ E1 ⟨RE.set r' j (RE.set r i p1.env), p1.sto, p1.ex, p1.tab⟩⟩
          | cons _ _ => simp at hlen
    · exact h.elim
def tPar3 (i j k : Nat) (ta : TA) : TS := fun D σ H => ta σ H fun vs H1 => ∃ v w z, vs = [v, w, z] ∧ D.nx (((σ.set i (some v)).set j (some w)).set k (some z)) H1
theorem ps_par3 {i j k : Nat} {x y z : Str} {a b c : Expr} {ta : TA} {px py pz : Pos} (hc : X.calm = true) (hN : X.N.Nodup) (hi : X.N[i]? = some x) (hj : X.N[j]? = some y) (hk : X.N[k]? = some z) (hij : i ≠ j) (hik : i ≠ k) (hjk : j ≠ k)
    (hx : X.env.scope.names.lookup x = some .local) (hy : X.env.scope.names.lookup y = some .local) (hz : X.env.scope.names.lookup z = some .local) (ha : PA X [a, b, c] ta)
    (hw : swappedStores [.Tuple [.Name x px, .Name y py, .Name z pz] kt pt] (.Tuple [a, b, c] k2 pt2) X.env = pure (some [x, y, z]))
    (hs : swapsWithSole [.Tuple [.Name x px, .Name y py, .Name z pz] kt pt] (.Tuple [a, b, c] k2 pt2) pos.line X.env = pure false) :
    PS X (.Assign [.Tuple [.Name x px, .Name y py, .Name z pz] kt pt] (.Tuple [a, b, c] k2 pt2) pos) (tPar3 i j k ta) := ⟨fun pins s σ H D I h => by
  rw [exec_Assign_arm]
  refine wpAny_bind (wpAny_standAt ?_)
  rw [hs]
  refine wpAny_bind (wpAny_pure ?_)
  rw [if_neg (by decide)]
  refine wpAny_bind (Tuple_ (thn (ha.run _ pins s σ H _ I h) fun us s1 ⟨vs, H1, I1, r1, q1⟩ => ?_))
  obtain ⟨v, w, t, e1, q1⟩ := q1
  subst e1
  obtain ⟨u1, u2, u3, rfl, r2, r3, r4⟩ : ∃ u1 u2 u3, us = [u1, u2, u3] ∧ RelV v u1 ∧ RelV w u2 ∧ RelV t u3 := by
    cases r1 with
    | cons a1 b1 => cases b1 with
      | cons a2 b2 => cases b2 with
        | cons a3 b3 => cases b3; exact ⟨_, _, _, rfl, a1, a2, a3⟩
  refine wpAny_newObj_type ?_ (by show 3 ≤ sizeLine; decide)
  have I2 : Inv X pins σ H1 { s1 with heap := s1.heap.push { cls := .type "tuple", data := .seq [u1, u2, u3].toArray } } := I1.kept (t' := s1.toks) fun b o e => Heap.get?_push_of_some _ e
  rw [hw]
  refine wpAny_bind (wpAny_pure ?_)
  show wpAny (model X.prog X.w) X.A (do rule "assign.swapped-stores"; let items ← unpackItems (.ref s1.heap.objs.size) 3 none; assignInOrder [fun v => bindName X.env z v, fun v => bindName X.env y v, fun v => bindName X.env x v] items.reverse; pure Flow.next) _ _ _
  refine wpAny_bind (wpAny_rule (wpAny_bind (unpackItems_tuple (items := #[u1, u2, u3]) (I.ok.hd hc) (IsTup.new s1.heap _) fun h' hx' => ?_)))
  have I3 := I2.kept (h' := h') (t' := s1.toks) fun b o e => hx' b o (Nat.ne_of_lt (Heap.lt_size e)) e
  show wpAny _ _ (assignInOrder [fun v => bindName X.env z v, fun v => bindName X.env y v, fun v => bindName X.env x v] [u3, u2, u1] >>= fun _ => pure Flow.next) _ _ _
  refine wpAny_bind (assignInOrder_cons (wpAny_bindName (store_ok I3 hN hk (.inl hz) r4 (fun s2 I4 => ?_) (.inr hz))))
  refine assignInOrder_cons (wpAny_bindName (store_ok I4 hN hj (.inl hy) r3 (fun s3 I5 => ?_) (.inr hy)))
  refine assignInOrder_cons (wpAny_bindName (store_ok I5 hN hi (.inl hx) r2 (fun s4 I6 => assignInOrder_nil (wpAny_pure ?_)) (.inr hx)))
  rw [List.set_comm _ _ (Ne.symm hjk), List.set_comm _ _ (Ne.symm hik), List.set_comm _ _ (Ne.symm hij)] at I6
  exact ⟨_, H1, I6, q1⟩⟩
theorem s_par3 (i j k : Nat) {x y z : Str} {a b c : Expr} {px py pz : Pos} (hc : X.calm = true) (hN : X.N.Nodup) (ha : PA X [a, b, c] (tA (gOf X T) W (argsM fs))) (hij : i ≠ j := by decide) (hik : i ≠ k := by decide) (hjk : j ≠ k := by decide) (hi : X.N[i]? = some x := by rfl) (hj : X.N[j]? = some y := by rfl) (hk : X.N[k]? = some z := by rfl)
    (hx : X.env.scope.names.lookup x = some .local := by rfl) (hy : X.env.scope.names.lookup y = some .local := by rfl) (hz : X.env.scope.names.lookup z = some .local := by rfl)
    (hw : swappedStores [.Tuple [.Name x px, .Name y py, .Name z pz] kt pt] (.Tuple [a, b, c] k2 pt2) X.env = pure (some [x, y, z]) := by rfl)
    (hs : swapsWithSole [.Tuple [.Name x px, .Name y py, .Name z pz] kt pt] (.Tuple [a, b, c] k2 pt2) pos.line X.env = pure false := by rfl) :
    PS X (.Assign [.Tuple [.Name x px, .Name y py, .Name z pz] kt pt] (.Tuple [a, b, c] k2 pt2) pos) (tS (gOf X T) W (parsM [i, j, k] fs)) := ps_mono (ps_par3 hc hN hi hj hk hij hik hjk hx hy hz ha hw hs) fun Dn σ H h => by
  obtain ⟨x, m, ρ, S, p, h⟩ := h
  cases q : argsM fs ρ S with
  | un => simp only [parsM, q] at h; exact h.elim
  | ex ee S' =>
    refine ⟨x, m, ρ, S, p, ?_⟩
    simp only [parsM, q] at h
    rw [q]
    exact fun m' H' cls d E R rx => h m' H' σ cls d E (p.ext E R) rx
  | ok us S' =>
    refine ⟨x, m, ρ, S, p, ?_⟩
    rw [q]
    intro m1 H1 E1 R1 vs rvs
    have p1 := p.ext E1 R1
    simp only [parsM, q] at h
    split at h
    · rename_i hlen
      cases rvs with
      | nil => simp at hlen
      | cons r t => cases t with
        | nil => simp at hlen
        | cons r' t => cases t with
          | nil => simp at hlen
          | cons r'' t => cases t with
            | nil => exact ⟨_, _, _, rfl, h m1 H1 _ E1 ⟨RE.set r'' k (RE.set r' j (RE.set r i p1.env)), p1.sto, p1.ex, p1.tab⟩⟩
            | cons _ _ => simp at hlen
    · exact h.elim

/-! ### raise X("..") of a class without its own __init__ -/
structure XC (G : Gc) (x : Str) : Prop where
  ex : ∃ C, G.mg x = some (.ref C) ∧ PySem.W.excIn G.K C [.type "ValueError", .type "Exception", .type "BaseException", .type "object"] "ValueError.__new__" = true ∧ PySem.W.keepIn G.K (.ref C) = true ∧
    PySem.W.subIn G.K (.ref C) (.type "BaseException") = some true ∧ PySem.W.typeIn G.K (.ref C) = some (.type "type")
theorem s_rai {x m : Str} {j : Nat} {p p2 ps pos : Pos} (h : XC (gOf X T) x) (hc : X.calm = true) (tk : Takes X W) (hg : Gl X x := by rfl) (hdb : (x == ("__debug__" : Str)) = false := by decide) :
    PS X (.Raise (some (.Call (.Name x p) [.Constant (.str m) j p2] [] ps)) none pos) (tS (gOf X T) W (raiM { cls := x })) := by
  obtain ⟨C, h1, h2, h3, h4, h5⟩ := h.ex
  refine ps_mono (ps_raise hc tk (pmk_own PySem.F.excBase_ValueError h2 h1 h3 (raises_own h4 h5) hg hdb)) fun Dn σ H h => ?_
  obtain ⟨y, m, ρ, S, p, h⟩ := h
  exact h m H σ (.ref C) none Ext.refl p ⟨C, rfl, h1, trivial⟩
end
end Mir

/-! Mir13: cells that are changed: o[i] = v, append; dicts that are made. -/
namespace Mir
open PySem PySem.Spec PyProof.Rows L2 RZ
def dputV : List NestedKey → List D → NestedKey → D → List D
  | k :: ks, v :: vs, x, d => if k = x then d :: vs else v :: dputV ks vs x d
  | _, vs, _, _ => vs
def dput (ks : List NestedKey) (vs : List D) (x : NestedKey) (d : D) : List NestedKey × List D := if x ∈ ks then (ks, dputV ks vs x d) else (ks ++ [x], vs ++ [d])
def setC : Cell → D → D → Option Cell
  | .lst xs, .int i, d => (ixN xs.length i).map fun j => .lst (xs.set j d)
  | .dic false ks vs, .int i, d => if ks.length < big then some (.dic false (dput ks vs (.num i) d).1 (dput ks vs (.num i) d).2) else none
  | .dic false ks vs, .str x, d => if ks.length < big then some (.dic false (dput ks vs (.text x) d).1 (dput ks vs (.text x) d).2) else none
  | .dic true ks vs, .tup xs, d => match toN (.tup xs) with
    | some k => if k.depth ≤ 8 ∧ ks.length < big then some (.dic true (dput ks vs k d).1 (dput ks vs k d).2) else none
    | none => none
  | _, _, _ => none
section
variable {G : Gc} {e m x : List Addr} {H : Hp}
theorem Ext.upd1 {a : Addr} {o o' : HO} (h : H a = some o) (h1 : ∀ xs, o ≠ .tup xs) (h2 : ∀ b u, o ≠ .frz b u) (h3 : ∀ b, o ≠ .own b) (h4 : ∀ ps, o ≠ .tbl ps) (h5 : ∀ c q, a = c → o ≠ LamX.CodeO c q) (h6 : ∀ ps, o' ≠ .tbl ps := by intro ps z; cases z) : Ext G [a] H [a] (upd H a o') := by
  have ne : ∀ {b : Addr} {u : HO}, H b = some u → o ≠ u → b ≠ a := fun {b u} q n z => n (by rw [z, h] at q; exact Option.some.inj q)
  refine ⟨fun b u q n t => ?_, fun b u q => ?_, fun b u w q => ?_, fun b u q => ?_, fun b q => ?_, ⟨[], by simp, fun _ z => by cases z⟩, fun t p hp => ?_⟩
  · rw [upd_ne (fun z => n (by simp [z]))]; exact q
  · rw [upd_ne (ne q (h1 _))]; exact q
  · rw [upd_ne (ne q (h2 _ _))]; exact q
  · rw [upd_ne (ne q (h3 _))]; exact q
  · by_cases z : b = a
    · rw [z]; exact ⟨_, upd_same, h6⟩
    · obtain ⟨u, q, qn⟩ := q
      exact ⟨u, by rw [upd_ne z]; exact q, qn⟩
  · obtain ⟨ps, g1, g2, g3⟩ := t p hp
    refine ⟨ps, by rw [upd_ne (ne g1 (h4 _))]; exact g1, g2, fun pos cv hc => ?_⟩
    obtain ⟨c, g4, g5⟩ := g3 pos cv hc
    refine ⟨c, g4, ?_⟩
    have hca : c ≠ a := fun z => h5 c p.2 z.symm (Option.some.inj (h.symm.trans (z ▸ g5)))
    rw [upd_ne hca]
    exact g5
/-- what is kept at a cell's change -/
theorem Keep.upd1 {a : Addr} {o o' : HO} (h : H a = some o) (h1 : ∀ xs, o ≠ .tup xs) (h2 : ∀ b u, o ≠ .frz b u) (ha : a ∈ e) : Keep G e H e (upd H a o') := by
  have ne : ∀ {b : Addr}, b ∉ e → b ≠ a := fun {b} n z => n (z ▸ ha)
  have ne2 : ∀ {b : Addr} {u : HO}, H b = some u → o ≠ u → b ≠ a := fun {b u} q n z => n (by rw [z, h] at q; exact Option.some.inj q)
  have st : ∀ b xs, SqT G.K H b xs → SqT G.K (upd H a o') b xs := fun b xs q => by
    rcases q with (q | ⟨u, q⟩) | q
    · exact .inl (.inl (by rw [upd_ne (ne2 q (h1 _))]; exact q))
    · exact .inl (.inr ⟨u, by rw [upd_ne (ne2 q (h2 _ _))]; exact q⟩)
    · exact .inr q
  refine ⟨st, fun b xs q => ?_, fun b xs q n => ⟨by rw [upd_ne (ne n)]; exact q, n⟩, fun b u t ks xs q n r => ⟨by rw [upd_ne (ne n)]; exact q, n, r.ext st⟩, fun b φ q n => ⟨by rw [upd_ne (ne n)]; exact q, n⟩⟩
  rcases q with ⟨u, q⟩ | q
  · exact .inl ⟨u, by rw [upd_ne (ne2 q (h2 _ _))]; exact q⟩
  · exact .inr q
end
/-! dicts: what is there, what comes -/
section
variable {G : Gc} {e : List Addr} {H : Hp}
theorem zip_map_put (k : Key) (v : V) : ∀ {kk : List Key} {xs : List V}, kk.length = xs.length → (kk.zip xs).map (fun kv => if kv.1 = k then (kv.1, v) else kv) = kk.zip ((kk.zip xs).map fun kv => if kv.1 = k then v else kv.2)
  | [], [], _ => rfl
  | j :: kk, x :: xs, h => by
    simp only [List.zip_cons_cons, List.map_cons]
    rw [zip_map_put k v (by simpa using h)]
    congr 1
    by_cases q : j = k <;> simp [q]
  | [], _ :: _, h => by simp at h
  | _ :: _, [], h => by simp at h
theorem putV_rvs {k : Key} {v : V} {d : D} (r : RV G e H d v) : ∀ {kk : List Key} {xs : List V} {ds : List D}, kk.length = xs.length → kk.Nodup → RVs G e H ds xs → RVs G e H (dputV (kk.map kN) ds (kN k) d) ((kk.zip xs).map fun kv => if kv.1 = k then v else kv.2)
  | [], [], _, _, _, .nil => .nil
  | j :: kk, x :: xs, y :: ds, h, hn, .cons r1 r2 => by
    simp only [List.map_cons, List.zip_cons_cons, dputV]
    obtain ⟨n1, n2⟩ := List.nodup_cons.mp hn
    by_cases q : j = k
    · subst q
      rw [if_pos rfl, if_pos rfl]
      refine .cons r ?_
      have : ∀ (l : List Key) (zs : List V), j ∉ l → l.length = zs.length → (l.zip zs).map (fun kv => if kv.1 = j then v else kv.2) = zs := by
        intro l
        induction l with
        | nil => intro zs _ hl; cases zs with
          | nil => rfl
          | cons _ _ => simp at hl
        | cons a l ih => intro zs hn hl; cases zs with
          | nil => simp at hl
          | cons z zs =>
            simp only [List.mem_cons, not_or] at hn
            simp only [List.zip_cons_cons, List.map_cons]
            rw [if_neg (fun z => hn.1 z.symm), ih zs hn.2 (by simpa using hl)]
      rw [this kk xs n1 (by simpa using h)]
      exact r2
    · rw [if_neg (fun z => q (kN_inj z)), if_neg q]
      exact .cons r1 (putV_rvs r (by simpa using h) n2 r2)
  | [], _ :: _, _, h, _, _ => by simp at h
  | _ :: _, [], _, h, _, _ => by simp at h
theorem any_zip (k : Key) : ∀ {kk : List Key} {xs : List V}, kk.length = xs.length → ((kk.zip xs).any fun kv => decide (kv.1 = k)) = decide (kN k ∈ kk.map kN)
  | [], [], _ => by simp
  | j :: kk, x :: xs, h => by
    simp only [List.zip_cons_cons, List.any_cons, List.map_cons, List.mem_cons]
    rw [any_zip k (by simpa using h)]
    by_cases q : j = k
    · subst q; simp
    · have : ¬ kN k = kN j := fun z => q (kN_inj z.symm)
      simp [q, this]
  | [], _ :: _, h => by simp at h
  | _ :: _, [], h => by simp at h
end
section
variable {X : Cx} {T : List (Addr × Str)} {pins : List (Addr × Obj)} {s : Shared} {σ : St} {H : Hp}
theorem dk_nodup {a : Addr} {kk : List Key} {xs : List V} (I : Inv X pins σ H s) (h : H a = some (.dK (kk.zip xs))) (hl : kk.length = xs.length) : kk.Nodup := by
  obtain ⟨_, _, vs, rel, o, es, ep, h1, h2, h3, h4, h5⟩ := dk_of I.hok h
  have e : ∀ {l : List (Key × V)} {m : List (Key × Value)}, KV l m → m.map (·.1) = l.map (·.1) := by
    intro l m q
    induction q with
    | nil => rfl
    | cons q _ ih => simp [ih, q.1]
  have h6 : (vs.map (·.1)).Nodup := h5.2
  rw [e rel] at h6
  rw [show (kk.zip xs).map (·.1) = kk from List.map_fst_zip (by omega)] at h6
  exact h6

theorem code_ne {a : Addr} {o : HO} (I : Inv X pins σ H s) (h : H a = some o) (hd : ∀ ob : Obj, s.heap.get? a = some ob → ∀ vs, ob.data ≠ .fields vs) : ∀ c q, a = c → o ≠ LamX.CodeO c q := fun c q e z => by
  subst e z
  obtain ⟨⟨oc, vs, t, h1, h2, _⟩, _⟩ := I.hok a _ h
  exact hd oc h1 vs h2
theorem lst_code {a c : Addr} {xs : List V} {q : Str} : HO.lst xs ≠ LamX.CodeO c q := fun z => by unfold LamX.CodeO at z; cases z
theorem dK_code {c : Addr} {xs : List (Key × V)} {q : Str} : HO.dK xs ≠ LamX.CodeO c q := fun z => by unfold LamX.CodeO at z; cases z
theorem ins_code {C dx c : Addr} {xs : List (Str × V)} {q : Str} : HO.ins C dx xs ≠ LamX.CodeO c q := fun z => by unfold LamX.CodeO at z; cases z
/-- a cell is set: by values -/
def rSet (G : Gc) : TSet := fun o i v H Q => ∃ e a c ob key d c', o = .ref a ∧ a ∈ e ∧ H a = some ob ∧ RC G e H a c ob ∧ RV G e H key i ∧ RV G e H d v ∧ setC c key d = some c' ∧
  ∀ ob', Ext G [a] H [a] (upd H a ob') → RC G e (upd H a ob') a c' ob' → Q (upd H a ob')
theorem dput_k {G : Gc} {e : List Addr} {H : Hp} {a : Addr} {k : Key} {kk : List Key} {xs : List V} {ds : List D} {v : V} {d : D} (hl : kk.length = xs.length) (hn : kk.Nodup) (r : RVs G e H ds xs) (rv : RV G e H d v) :
    ∃ xs', RD G H a false (dput (kk.map kN) ds (kN k) d).1 xs' (.dK (putK (kk.zip xs) k v)) ∧ RVs G e H (dput (kk.map kN) ds (kN k) d).2 xs' := by
  unfold dput putK
  rw [any_zip k hl]
  by_cases q : kN k ∈ kk.map kN
  · rw [if_pos q, if_pos (decide_eq_true q), zip_map_put k v hl]
    exact ⟨_, .k kk _ (by simp [hl]), putV_rvs rv hl hn r⟩
  · rw [if_neg q, if_neg (by simpa using q)]
    refine ⟨xs ++ [v], ?_, r.append (.cons rv .nil)⟩
    rw [show kk.zip xs ++ [(k, v)] = (kk ++ [k]).zip (xs ++ [v]) by rw [List.zip_append hl]; rfl]
    have := RD.k (G := G) (H := H) (a := a) (kk ++ [k]) (xs ++ [v]) (by simp [hl])
    simpa using this
def putT (ts : List (NestedKey × Addr × V)) (k : NestedKey) (b : Addr) (v : V) : List (NestedKey × Addr × V) := if k ∈ ts.map (·.1) then ts.map (fun t => if t.1 = k then (t.1, t.2.1, v) else t) else ts ++ [(k, b, v)]
theorem putT_us {k : NestedKey} {b : Addr} {v : V} {u : Value} (rv : RelV v u) {ts : List (NestedKey × Addr × V)} {us : List (NestedKey × Addr × Value)} (h : PT3 ts us) (hs : (atKey us k).isSome = decide (k ∈ ts.map (·.1))) : PT3 (putT ts k b v) (storedH us k b u) := by
  unfold putT storedH
  rw [hs]
  by_cases q : k ∈ ts.map (·.1)
  · rw [if_pos q, if_pos (decide_eq_true q)]
    clear hs q
    induction h with
    | nil => exact .nil
    | @cons p q ps qs hq t ih =>
      refine .cons ?_ ih
      unfold putAt
      dsimp only
      by_cases z : p.1 = k
      · rw [if_pos z, if_pos (hq.1.symm.trans z)]
        exact ⟨hq.1, hq.2.1, rv⟩
      · rw [if_neg z, if_neg (fun w => z (hq.1.trans w))]
        exact hq
  · rw [if_neg q, if_neg (by simpa using q)]
    have : ∀ {l : List (NestedKey × Addr × V)} {m : List (NestedKey × Addr × Value)}, PT3 l m → PT3 (l ++ [(k, b, v)]) (m ++ [(k, b, u)]) := by
      intro l m h
      induction h with
      | nil => exact .cons ⟨rfl, rfl, rv⟩ .nil
      | cons hq _ ih => exact .cons hq ih
    exact this h
theorem putT_ds {G : Gc} {e : List Addr} {H : Hp} {k : NestedKey} {b : Addr} {v : V} {d : D} (rv : RV G e H d v) {ts : List (NestedKey × Addr × V)} {ds : List D} (hn : (ts.map (·.1)).Nodup) (r : RVs G e H ds (ts.map (·.2.2))) :
    (putT ts k b v).map (·.1) = (dput (ts.map (·.1)) ds k d).1 ∧ RVs G e H (dput (ts.map (·.1)) ds k d).2 ((putT ts k b v).map (·.2.2)) := by
  unfold putT dput
  by_cases q : k ∈ ts.map (·.1)
  · rw [if_pos q, if_pos q]
    refine ⟨?_, ?_⟩
    · rw [List.map_map]
      apply List.map_congr_left
      intro t _
      by_cases z : t.1 = k <;> simp [z]
    · clear q
      induction ts generalizing ds with
      | nil => cases r; exact .nil
      | cons t ts ih =>
        cases r with
        | @cons y w ds' ws r1 r2 =>
          simp only [List.map_cons, List.nodup_cons] at hn
          simp only [List.map_cons, dputV]
          by_cases z : t.1 = k
          · rw [if_pos z]
            simp only [z, if_true]
            refine .cons rv ?_
            have same : ts.map (fun t => (if t.1 = k then (t.1, t.2.1, v) else t)) = ts := by
              have : ts.map (fun t => (if t.1 = k then (t.1, t.2.1, v) else t)) = ts.map id := by
                apply List.map_congr_left
                intro t' ht'
                rw [if_neg (fun w => hn.1 (by rw [z, ← w]; exact List.mem_map_of_mem ht'))]; rfl
              rw [this, List.map_id]
            rw [same]
            exact r2
          · rw [if_neg z]
            simp only [z, if_false]
            exact .cons r1 (ih hn.2 r2)
  · rw [if_neg q, if_neg q]
    simp only [List.map_append, List.map_cons, List.map_nil]
    exact ⟨trivial, r.append (.cons rv .nil)⟩
theorem dicN_write {a : Addr} {ts ts' : List (NestedKey × Addr × V)} {us' : List (NestedKey × Addr × Value)} {h' : Heap} {t' : Nat} (I : Inv X pins σ H s) (h : H a = some (dicN X.prog X.w a ts)) (hl : ts'.length ≤ sizeLine) (hs : Heap.SameBut a s.heap h') (ht : PT3 ts' us') (hd : h'.DictOfH (nestedKind X.prog X.w) a us') (hsys : (a == sysModules) = false) :
    Inv X pins σ (upd H a (dicN X.prog X.w a ts')) { s with heap := h', toks := t' } := by
  obtain ⟨o, es, ep, h1, h2, h3, h4, h5, h6⟩ := hd
  refine d_write I (by rw [h]; exact True.intro) hs ⟨o, h1⟩ ⟨⟨hl, hsys, us', ht, o, es, ep, h1, h2, h3, h4, h6⟩, ⟨o, h1⟩, ?_⟩
  rintro g1 g2 ⟨q1, q2, us, q3, o', es', ep', q4, q5⟩ k
  exact ⟨q1, q2, us, q3, o', es', ep', k _ q4, q5⟩
theorem o_set (hu : X.A.units + 65 < cLine) : PSet X (rSet (gOf X T)) := by
  intro pins s σ H o i v ov iv u Q I ro ri rv hh
  obtain ⟨e, a, c, ob, key, d, c', rfl, hae, ha, hc, rk, rd, hset, q⟩ := hh
  have none3 : ∀ {p : Prop}, (none : Option Cell) = some c' → p := fun h => by cases h
  cases c with
  | ins _ _ => exact none3 (by cases key <;> exact hset)
  | lst xs =>
   cases key with
   | int j =>
    obtain ⟨n, hn, rfl⟩ := Option.map_eq_some_iff.mp hset
    cases hc with
    | @lst vs _ hvs =>
      cases rk
      have kp : Keep (gOf X T) e H e (upd H a (.lst (vs.set n v))) := Keep.upd1 ha (fun _ z => by cases z) (fun _ _ z => by cases z) hae
      exact set_list pins s σ H _ _ v ov iv u Q I ro ri rv ⟨a, vs, j, n, rfl, rfl, ha, by rw [← hvs.len]; exact hn, q _ (Ext.upd1 ha (fun _ z => by cases z) (fun _ _ z => by cases z) (fun _ z => by cases z) (fun _ z => by cases z) fun c q _ => lst_code (a := a)) (.lst ((RVs.set rd n hvs).keep kp))⟩
   | _ => exact none3 hset
  | dic t ks vs =>
   cases t with
   | false =>
    cases key with
    | int j =>
     unfold setC at hset
     dsimp only at hset
     split at hset
     · rename_i hlen
       cases hset
       cases hc with
       | @dic _ _ _ xs _ hrd hvs =>
         cases hrd with
         | k kk xs hl =>
           cases rk
           cases ro
           obtain ⟨xs', r1, r2⟩ := dput_k (a := a) (k := .inl j) hl (dk_nodup I ha hl) hvs rd
           have kp : Keep (gOf X T) e H e (upd H a (.dK (putK (kk.zip xs) (.inl j) v))) := Keep.upd1 ha (fun _ z => by cases z) (fun _ _ z => by cases z) hae
           refine d_setItem (by omega) I (DPut.k (k := .inl j) ha ?_) ri rv fun s' I' => ⟨_, I', q _ (Ext.upd1 ha (fun _ z => by cases z) (fun _ _ z => by cases z) (fun _ z => by cases z) (fun _ z => by cases z) fun c q _ => dK_code) (.dic (r1.ext fun _ _ z => kp.tup _ _ z) (r2.keep kp))⟩
           rw [List.length_zip, ← hl, Nat.min_self]
           exact big_lt (Nat.le_of_lt (by simpa using hlen))
     · cases hset
    | str j =>
     unfold setC at hset
     dsimp only at hset
     split at hset
     · rename_i hlen
       cases hset
       cases hc with
       | @dic _ _ _ xs _ hrd hvs =>
         cases hrd with
         | k kk xs hl =>
           cases rk
           cases ro
           obtain ⟨xs', r1, r2⟩ := dput_k (a := a) (k := .inr j) hl (dk_nodup I ha hl) hvs rd
           have kp : Keep (gOf X T) e H e (upd H a (.dK (putK (kk.zip xs) (.inr j) v))) := Keep.upd1 ha (fun _ z => by cases z) (fun _ _ z => by cases z) hae
           refine d_setItem (by omega) I (DPut.k (k := .inr j) ha ?_) ri rv fun s' I' => ⟨_, I', q _ (Ext.upd1 ha (fun _ z => by cases z) (fun _ _ z => by cases z) (fun _ z => by cases z) (fun _ z => by cases z) fun c q _ => dK_code) (.dic (r1.ext fun _ _ z => kp.tup _ _ z) (r2.keep kp))⟩
           rw [List.length_zip, ← hl, Nat.min_self]
           exact big_lt (Nat.le_of_lt (by simpa using hlen))
     · cases hset
    | _ => exact none3 hset
   | true =>
    cases key with
    | tup xs =>
     unfold setC at hset
     dsimp only at hset
     split at hset
     · rename_i k hk
       split at hset
       · rename_i hlen
         cases hset
         cases hc with
         | @dic _ _ _ xs _ hrd hvs =>
           cases hrd with
           | n ts hts =>
             have hrn := rk.rn hk
             cases rk with
             | @tup b ys _ t1 t2 =>
               cases ro
               cases ri
               obtain ⟨z1, z2, us, z3, z4⟩ := dicN_at I ha hts
               have hlt : ts.length = us.length := by
                 have : ∀ {l : List (NestedKey × Addr × V)} {m : List (NestedKey × Addr × Value)}, PT3 l m → l.length = m.length := by
                   intro l m h
                   induction h with
                   | nil => rfl
                   | cons _ _ ih => simp [ih]
                 exact this z3
               have hnd : (ts.map (·.1)).Nodup := by
                 have e1 : ∀ {l : List (NestedKey × Addr × V)} {m : List (NestedKey × Addr × Value)}, PT3 l m → m.map (·.1) = l.map (·.1) := by
                   intro l m h
                   induction h with
                   | nil => rfl
                   | cons h _ ih => simp [ih, h.1]
                 rw [← e1 z3]
                 exact z4.nodup
               have hcode : ∀ c q, a = c → dicN X.prog X.w a ts ≠ LamX.CodeO c q := code_ne I ha fun ob hob vs hd => by
                 obtain ⟨o, es, ep, h1, h2, h3, _⟩ := z4
                 rw [hob] at h1; cases h1
                 rw [hd] at h3; cases h3
               refine wpAny_setItem_heap (knd := nestedKind X.prog X.w) (k := k) (hsz := by rw [← hlt]; exact z1) (show X.A.units + 1 + 8 < cLine by omega) ⟨RN.nested I _ _ _ hrn rfl, hlen.1⟩ z4 fun h' hd' hsb => ?_
               have hs := (atKey_get (G := gOf X T) k z3 hvs).2
               have p3 := putT_us (b := b) rv z3 hs
               obtain ⟨p4, p5⟩ := putT_ds (k := k) (b := b) rd hnd hvs
               have hlen2 : (putT ts k b v).length ≤ sizeLine := by
                 unfold putT
                 split
                 · rw [List.length_map]; exact z1
                 · rw [List.length_append]
                   have : ts.length < big := by simpa using hlen.2
                   exact big_ok (show ts.length + 1 ≤ big from this)
               have I' := dicN_write (t' := s.toks + (nestedKind X.prog X.w).draws k) I ha hlen2 hsb p3 hd' z2
               have kp : Keep (gOf X T) e H e (upd H a (dicN X.prog X.w a (putT ts k b v))) := Keep.upd1 ha (fun _ z => by cases z) (fun _ _ z => by cases z) hae
               refine ⟨_, I', q _ (Ext.upd1 ha (fun _ z => by cases z) (fun _ _ z => by cases z) (fun _ z => by cases z) (fun _ z => by cases z) hcode) ?_⟩
               have hnew : ∀ t ∈ putT ts k b v, RN (gOf X T) (upd H a (dicN X.prog X.w a (putT ts k b v))) t.1 (.ref t.2.1) ∧ t.1.depth ≤ 8 := by
                 intro t ht
                 unfold putT at ht
                 split at ht
                 · obtain ⟨t0, h0, rfl⟩ := List.mem_map.mp ht
                   obtain ⟨g1, g2⟩ := hts t0 h0
                   by_cases z : t0.1 = k
                   · rw [if_pos z]; exact ⟨g1.ext fun _ _ z => kp.tup _ _ z, g2⟩
                   · rw [if_neg z]; exact ⟨g1.ext fun _ _ z => kp.tup _ _ z, g2⟩
                 · rcases List.mem_append.mp ht with h0 | h0
                   · exact ⟨(hts t h0).1.ext fun _ _ z => kp.tup _ _ z, (hts t h0).2⟩
                   · have : t = (k, b, v) := by simpa using h0
                     subst this
                     exact ⟨hrn.ext fun _ _ z => kp.tup _ _ z, hlen.1⟩
               have rdn := RD.n (G := gOf X T) (H := upd H a (dicN X.prog X.w a (putT ts k b v))) (a := a) (putT ts k b v) hnew
               rw [p4] at rdn
               exact .dic rdn (p5.keep kp)
       · cases hset
     · cases hset
            | _ => exact none3 hset
end
end Mir

/-! Mir14: statements and calls that change cells; dicts that are made; methods. -/
namespace Mir
open PySem PySem.Spec PyProof.Rows L2 RZ
def setM (fo fi fv : ME) : MS := fun ρ S => toS ρ (fv ρ S) fun uv S1 => toS ρ (fo ρ S1) fun uo S2 => toS ρ (fi ρ S2) fun ui S3 => match uo, ui, uv with
  | .c j, .d k, .d d => match S3[j]? with
    | some c => match setC c k d with
      | some c' => .nx ρ (S3.set j c')
      | none => .un
    | none => .un
  | _, _, _ => .un
def isLst : Option Cell → Bool
  | some (.lst _) => true
  | _ => false
def appM (fo fe : ME) : ME := fun ρ S => (fo ρ S).bind fun uo S1 => match uo with
  | .c j => if isLst S1[j]? = true then (fe ρ S1).bind fun ue S2 => match ue, S2[j]? with
    | .d d, some (.lst xs) => if xs.length < big then .ok (.d .non) (S2.set j (.lst (xs ++ [d]))) else .un
    | _, _ => .un
   else .un
  | _ => .un
section
variable {X : Cx} {T : List (Addr × Str)} {W : WX} {o i e value : Expr} {fo fi fv : ME} {pos p2 apos : Pos}
theorem s_setI (hu : X.A.units + 65 < cLine) (he : PE X value (tE (gOf X T) W fv)) (ho : PE X o (tE (gOf X T) W fo)) (hi : PE X i (tE (gOf X T) W fi))
    (ha : ∀ v, assign (.Subscript o i p2) X.env v = (do
      let ov ← holding [v] (eval o X.env)
      let iv ← holding [v, ov] (eval i X.env)
      standAt p2
      holding [v, ov, iv] (setItem ov iv v)
      release [v, ov, iv] []) := by intro _; rfl)
    (hs : swapsWithSole [.Subscript o i p2] value pos.line X.env = pure false := by rfl) (hw : swappedStores [.Subscript o i p2] value X.env = pure none := by rfl)
    (h1 : (assignEach [.Subscript o i p2] X.env).map (·.2) = [assign (.Subscript o i p2) X.env] := by rfl) : PS X (.Assign [.Subscript o i p2] value pos) (tS (gOf X T) W (setM fo fi fv)) :=
  ps_mono (ps_asg he (pg_sub ho hi (o_set (T := T) hu) ha) hs hw h1) fun Dn σ H h => by
    obtain ⟨x, m, ρ, S, p, h⟩ := h
    refine ⟨x, m, ρ, S, p, (Post.toS h p).mono fun uv S1 m1 H1 E1 R1 ⟨_, _, h1⟩ v rv => ?_⟩
    have p1 := p.ext E1 R1
    refine ⟨x, m1, ρ, S1, p1, (Post.toS h1 p1).mono fun uo S2 m2 H2 E2 R2 ⟨_, _, h2⟩ ov ro => ?_⟩
    have p2 := p1.ext E2 R2
    refine ⟨x, m2, ρ, S2, p2, (Post.toS h2 p2).mono fun ui S3 m3 H3 E3 R3 ⟨_, _, h3⟩ iv ri => ?_⟩
    have p3 := p2.ext E3 R3
    cases uo with
    | d _ => exact h3.elim
    | t _ => exact h3.elim
    | c j =>
      cases ui with
      | c _ => exact h3.elim
      | t _ => exact h3.elim
      | d k =>
        cases uv with
        | c _ => exact h3.elim
        | t _ => exact h3.elim
        | d d =>
          dsimp only at h3
          cases hj : S3[j]? with
          | none => simp only [hj] at h3; exact h3.elim
          | some c =>
            simp only [hj] at h3
            cases hs' : setC c k d with
            | none => simp only [hs'] at h3; exact h3.elim
            | some c' =>
              simp only [hs'] at h3
              cases ro.ext E3 with
              | @c _ a ha' =>
                obtain ⟨ob, o1, o2⟩ := R3.at' j a c ha' hj
                cases (rv.ext E2).ext E3 with
                | d rv =>
                  cases ri with
                  | d ri =>
                    refine ⟨x ++ m3, a, c, ob, k, d, c', rfl, List.mem_append_right _ (List.mem_of_getElem? ha'), o1, o2, ri, rv, hs', fun ob' E4 rc => ?_⟩
                    have R4 := R3.one E4 ha' upd_same rc
                    have E5 : Ext (gOf X T) m3 H3 m3 (upd H3 a ob') := E4.of_one (List.mem_of_getElem? ha')
                    exact h3 m3 _ σ E5 (p3.ext E5 R4)
theorem e_app (ho : PE X o (tE (gOf X T) W fo)) (he : PE X e (tE (gOf X T) W fv)) (hbase : attributeBase o "append" X.env (eval o X.env) = eval o X.env := by rfl)
    (hfew : ((backTo p2 (starEach [e] X.env)).all (fun x => !x.1) && (backToKw p2 (keywordEach [] X.env)).all (fun x => x.1.isSome)
      && decide ([e].length + ([] : List Keyword).length + (if ([] : List Keyword).isEmpty then 0 else 1) < 30)) = true := by rfl)
    (hline : (apos.endLine == p2.line) = true := by rfl) (hs : starEach [e] X.env = (false, eval e X.env) :: starEach [] X.env := by rfl) (hpl : (backTo p2 (starEach [] X.env)).any (·.1) = false := by rfl) :
    PE X (.Call (.Attribute o "append" apos) [e] [] p2) (tE (gOf X T) W (appM fo fv)) :=
  pe_mono (pe_bm PySem.F.plainAttrs_list PySem.F.slot_list_append PySem.F.type_list_append mt_append ho (pa_cons he pa_nil hs) hbase hfew hline hs hpl) fun σ H Q h => by
    obtain ⟨x, m, ρ, S, p, h⟩ := h
    refine ⟨x, m, ρ, S, p, (Post.bind h).mono fun uo S1 m1 H1 E1 R1 ⟨_, _, h1⟩ ov ro => ?_⟩
    have p1 := p.ext E1 R1
    cases uo with
    | d _ => exact h1.elim
    | t _ => exact h1.elim
    | c j =>
      dsimp only at h1
      split at h1
      case isFalse => exact h1.elim
      case isTrue hl =>
      cases ro with
      | @c _ a ha' =>
        have hjl : j < S1.length := by rw [← R1.len]; exact (List.getElem?_eq_some_iff.mp ha').1
        cases hc : S1[j]? with
        | none => rw [List.getElem?_eq_none_iff] at hc; omega
        | some c =>
          rw [hc] at hl
          obtain ⟨ob, o1, o2⟩ := R1.at' j a c ha' hc
          cases o2 with
          | dic _ _ => simp [isLst] at hl
          | ins _ _ _ => simp [isLst] at hl
          | @lst vs _ hvs =>
            refine ⟨.inl ⟨rfl, vs, .of o1⟩, x, m1, ρ, S1, p1, (Post.bind h1).mono fun ue S2 m2 H2 E2 R2 ⟨_, _, h2⟩ v rv => ?_⟩
            have ha2 : m2[j]? = some a := by
              obtain ⟨nw, e1, _⟩ := E2.pre
              rw [e1, List.getElem?_append_left (List.getElem?_eq_some_iff.mp ha').1]; exact ha'
            cases ue with
            | c _ => exact h2.elim
            | t _ => exact h2.elim
            | d d =>
              cases hc2 : S2[j]? with
              | none => simp only [hc2] at h2; exact h2.elim
              | some c2 =>
                rw [hc2] at h2
                cases c2 with
                | dic _ _ _ => exact h2.elim
                | ins _ _ => exact h2.elim
                | lst xs =>
                  dsimp only at h2
                  split at h2
                  case isFalse => exact h2.elim
                  case isTrue hlen =>
                  obtain ⟨ob2, g1, g2⟩ := R2.at' j a _ ha2 hc2
                  cases g2 with
                  | @lst vs2 _ hvs2 =>
                    cases rv with
                    | d rv =>
                      refine ⟨a, vs2, v, rfl, rfl, g1, by rw [← hvs2.len]; exact big_lt (Nat.le_of_lt hlen), ?_⟩
                      have E3 : Ext (gOf X T) [a] H2 [a] (upd H2 a (.lst (vs2 ++ [v]))) := Ext.upd1 g1 (fun _ z => by cases z) (fun _ _ z => by cases z) (fun _ z => by cases z) (fun _ z => by cases z) fun c q _ => lst_code (a := a)
                      have kp : Keep (gOf X T) (x ++ m2) H2 (x ++ m2) (upd H2 a (.lst (vs2 ++ [v]))) := Keep.upd1 g1 (fun _ z => by cases z) (fun _ _ z => by cases z) (List.mem_append_right _ (List.mem_of_getElem? ha2))
                      have R3 := R2.one E3 ha2 upd_same (.lst ((hvs2.append (.cons rv .nil)).keep kp))
                      exact h2 m2 _ (E3.of_one (List.mem_of_getElem? ha2)) R3 _ (.d .non)

/-! ### dicts that are made -/
/-- {} that is to be changed, with plain keys; with tuples as keys -/
def ndiM (t : Bool) : ME := fun _ S => .ok (.c S.length) (S ++ [.dic t [] []])
theorem e_ndK : PE X (.Dict [] [] pos) (tE (gOf X T) W (ndiM false)) := pe_mono pe_dnewK fun σ H Q h => by
  obtain ⟨x, m, ρ, S, p, h⟩ := h
  intro a np
  have E2 : Ext (gOf X T) m H (m ++ [a]) (upd H a (.dK [])) := Ext.cell np
  exact h (m ++ [a]) _ E2 (p.sto.cell np (.dic (.k [] [] rfl) .nil)) _ (.c (by rw [← p.sto.len]; simp))
theorem e_ndN : PE X (.Dict [] [] pos) (tE (gOf X T) W (ndiM true)) := ⟨fun pins s σ H Q I h => by
  obtain ⟨x, m, ρ, S, p, h⟩ := h
  have np : H s.heap.objs.size = none := I.hok.fresh (Nat.le_refl _)
  have hsys : (s.heap.objs.size == sysModules) = false := by
    exact beq_false_of_ne (Nat.ne_of_gt I.big)
  refine wpAny_Dict_empty ⟨.ref s.heap.objs.size, _, I.laid (a := s.heap.objs.size) (o := dicN X.prog X.w s.heap.objs.size []) (t' := s.toks) (fun _ _ q => Heap.get?_push_of_some _ q) (Nat.le_refl _) ⟨⟨Nat.zero_le _, hsys, [], .nil, ?_⟩, ⟨_, Heap.get?_push_size _ rfl⟩, ?_⟩, rfl, ?_⟩
  · obtain ⟨o, es, ep, h1, h2, h3, h4, h5, h6⟩ := Heap.DictOfH.new (knd := nestedKind X.prog X.w) s.heap
    exact ⟨o, es, ep, h1, h2, h3, h4, h6⟩
  · rintro g1 g2 ⟨q1, q2, us, q3, o', es', ep', q4, q5⟩ k
    exact ⟨q1, q2, us, q3, o', es', ep', k _ q4, q5⟩
  · have E2 : Ext (gOf X T) m H (m ++ [s.heap.objs.size]) (upd H s.heap.objs.size (dicN X.prog X.w s.heap.objs.size [])) := Ext.cell np
    refine h (m ++ [s.heap.objs.size]) _ E2 (p.sto.cell np (.dic ?_ .nil)) _ (.c (by rw [← p.sto.len]; simp))
    exact RD.n (G := gOf X T) [] (fun _ z => by cases z)⟩
end
end Mir

/-! Mir15: zip of any two; texts: walked, joined, split, written; what is never reached; a dict of the module. -/
namespace Mir
open PySem PySem.Spec PyProof.Rows L2 RZ
/-! ### never reached -/
def unM : MS := fun _ _ => .un
theorem s_un {X : Cx} {T : List (Addr × Str)} {W : WX} {st : Stmt} : PS X st (tS (gOf X T) W unM) := ⟨fun pins s σ H Dn I h => by
  obtain ⟨x, m, ρ, S, p, h⟩ := h
  exact h.elim⟩
def unE : ME := fun _ _ => .un
theorem e_un0 {X : Cx} {T : List (Addr × Str)} {W : WX} {e : Expr} : PE X e (tE (gOf X T) W unE) := ⟨fun pins s σ H Q I h => by
  obtain ⟨x, m, ρ, S, p, h⟩ := h
  exact h.elim⟩
/-! ### zip of lists, tuples -/
def SqB (t : Bool) (K : PySem.W.Frag) (H : Hp) (a : Addr) (xs : List V) : Prop := match t with
  | true => SqT K H a xs
  | false => SqL K H a xs
def itB (t : Bool) (h : Heap) (it l : Addr) (i : Nat) : Prop := match t with
  | true => h.IsTupleIter it l i
  | false => h.IsListIter it l i
def sqB (t : Bool) (h : Heap) (l : Addr) (items : Array Value) : Prop := match t with
  | true => h.IsTuple l items
  | false => h.IsList l items
theorem drawsB (t : Bool) {prog : Program} {w : World} {A : Around} (hh : A.handled = none) (it l : Addr) (hne : l ≠ it) (items : Array Value) :
    Draws prog w A it [it, l] items.size (fun i v => items[i]? = some v) (fun i h => itB t h it l i ∧ sqB t h l items) := by
  cases t
  · exact Draws.list hh it l hne items
  · exact Draws.tuple hh it l hne items
theorem itB.ex {t : Bool} {h : Heap} {it l : Addr} {i : Nat} (x : itB t h it l i) : ∃ o, h.get? it = some o ∧ ∀ v, o.data ≠ .cell v := by
  cases t
  · obtain ⟨o, e, _, d⟩ := x; exact ⟨o, e, fun v q => by rw [d] at q; cases q⟩
  · obtain ⟨o, e, _, d⟩ := x; exact ⟨o, e, fun v q => by rw [d] at q; cases q⟩
theorem itB.at {t : Bool} {h h' : Heap} {it l : Addr} {i : Nat} (x : itB t h it l i) (k : ∀ o, h.get? it = some o → h'.get? it = some o) : itB t h' it l i := by
  cases t
  · exact Heap.IsListIter.at x k
  · exact Heap.IsTupleIter.at x k
theorem SqB.items {t : Bool} {X : Cx} {pins : List (Addr × Obj)} {σ : St} {H : Hp} {s : Shared} {a : Addr} {xs : List V} (h : SqB t X.K H a xs) (I : Inv X pins σ H s) : ∃ its : List Value, Vals xs its ∧ sqB t s.heap a its.toArray ∧ a < s.heap.objs.size := by
  cases t
  · obtain ⟨its, r, p, _⟩ := I.list h
    exact ⟨its, r, p.isList, p.lt⟩
  · obtain ⟨its, r, p, _⟩ := I.tuple h
    obtain ⟨o, e, q⟩ := id p
    exact ⟨its, r, p, Heap.lt_size e⟩
theorem SqB.inj {t : Bool} {X : Cx} {pins : List (Addr × Obj)} {σ : St} {H : Hp} {s : Shared} {a : Addr} {xs ys : List V} (I : Inv X pins σ H s) (h : SqB t X.K H a xs) (h' : SqB t X.K H a ys) : xs = ys := by
  cases t
  · exact I.list_inj h h'
  · exact I.tuple_inj h h'
def ItzB (t u : Bool) (K : PySem.W.Frag) (a b : Addr) : It :=
  ⟨fun i H => ∃ (xs ys : List V) (x y : V), SqB t K H a xs ∧ SqB u K H b ys ∧ xs[i]? = some x ∧ ys[i]? = some y,
    fun i H v H' => ∃ T x y, v = .ref T ∧ H T = none ∧ H' = upd H T (.tup [x, y]) ∧ (∀ xs, SqB t K H a xs → xs[i]? = some x) ∧ ∀ ys, SqB u K H b ys → ys[i]? = some y,
    fun i H => ∃ xs ys : List V, SqB t K H a xs ∧ SqB u K H b ys ∧ (xs.length ≤ i ∨ ys.length ≤ i) ∧ i ≤ xs.length ∧ i ≤ ys.length⟩
theorem turn_zipB {t u : Bool} {P : Program} {w : World} {K : PySem.W.Frag} {elts : List Expr} {kk : Nat} {tpos : Pos} {a b z TI TO i1 i2 : Addr} (S : ZipSep2 z TI TO i1 i2 [i1, a] [i2, b]) (na : a ≠ i1) (nb : b ≠ i2) :
    Turn P w K (.Tuple elts kk tpos) (ItzB t u K a b) [z, TI, TO, i1, i2] z (fun i h => IsZip h z TI TO .none ∧ IsTupOf2 h TI (.ref i1) (.ref i2) ∧ (∃ x y, IsTupOf2 h TO x y) ∧ itB t h i1 a i ∧ itB u h i2 b i) where
  mem := by simp
  obj := fun i h st c hc => by
    obtain ⟨hz, hTI, ⟨x, y, hTO⟩, h1, h2⟩ := st
    have e' : c = z ∨ c = TI ∨ c = TO ∨ c = i1 ∨ c = i2 := by simpa using hc
    rcases e' with q | q | q | q | q
    · rw [q]; exact ⟨_, hz, fun v q => nomatch q⟩
    · rw [q]; exact ⟨_, hTI, fun v q => nomatch q⟩
    · rw [q]; exact ⟨_, hTO, fun v q => nomatch q⟩
    · rw [q]; exact h1.ex
    · rw [q]; exact h2.ex
  keep := fun i h h' st k => by
    obtain ⟨hz, hTI, ⟨x, y, hTO⟩, h1, h2⟩ := st
    exact ⟨k z (by simp) _ hz, k TI (by simp) _ hTI, ⟨x, y, k TO (by simp) _ hTO⟩, h1.at fun o q => k i1 (by simp) o q, h2.at fun o q => k i2 (by simp) o q⟩
  item := by
    intro X hP hw hK hc i pins s σ H E I hf st hg
    subst hP hw hK
    obtain ⟨hz, hTI, ⟨x0, y0, hTO⟩, h1, h2⟩ := st
    obtain ⟨xs, ys, x, y, hqx, hqy, hx, hy⟩ := hg
    obtain ⟨its, rv, p, _⟩ := hqx.items I
    obtain ⟨its2, rv2, p2, _⟩ := hqy.items I
    obtain ⟨v1, hu, ru⟩ := rv.get hx
    obtain ⟨v2, hu2, ru2⟩ := rv2.get hy
    have hzl : z < s.heap.objs.size := Heap.lt_size hz
    have hi1 : i1 < s.heap.objs.size := by obtain ⟨o, e, _⟩ := h1.ex; exact Heap.lt_size e
    have hi2 : i2 < s.heap.objs.size := by obtain ⟨o, e, _⟩ := h2.ex; exact Heap.lt_size e
    refine wpAny_pyNext_zipD2_item (A := X.A) S (drawsB t (A := X.A.in1) (I.ok.hd hc) i1 a na its.toArray) (drawsB u (A := X.A.in1) (I.ok.hd hc) i2 b nb its2.toArray) hz hTI hTO ⟨h1, p⟩ ⟨h2, p2⟩ (by have := (List.getElem?_eq_some_iff.mp hu).1; simpa using this) (by have := (List.getElem?_eq_some_iff.mp hu2).1; simpa using this) fun x1 x2 h' tk y1 y2 z' TO' h1' h2' hT hsz hk => ?_
    have e1 : x1 = v1 := by
      have q : its[i]? = some x1 := by simpa using y1
      rw [hu] at q; exact (Option.some.inj q).symm
    have e2 : x2 = v2 := by
      have q : its2[i]? = some x2 := by simpa using y2
      rw [hu2] at q; exact (Option.some.inj q).symm
    subst e1 e2
    refine ⟨_, rfl, wpAny_letOwnedTupleGo_zip (s := { s with heap := h', toks := tk }) z' fun h'' z'' sb => ?_⟩
    have hT2 : h''.get? s.heap.objs.size = some { cls := .type "tuple", data := .seq #[x1, x2] } := (sb.2 _ (Nat.ne_of_gt hzl)).trans hT
    have new : ObjOk X.prog X.w (upd H s.heap.objs.size (.tup [x, y])) h'' s.heap.objs.size (.tup [x, y]) :=
      ⟨by show 2 ≤ sizeLine; decide, [x1, x2], .cons ru (.cons ru2 .nil), ⟨_, hT2, rfl, _, rfl⟩⟩
    have I1 : Inv X pins σ (upd H s.heap.objs.size (.tup [x, y])) { s with heap := h'', toks := tk } :=
      I.turnedNew (t' := tk) (ch := [z, TI, TO, i1, i2]) (fun c o hb q => (sb.2 c (fun q' => hb (by simp [q']))).trans (hk c o (fun q' => hb (by simp [q'])) (fun q' => hb (by simp [q'])) (fun q' => hb (by simp [q'])) (fun q' => hb (by simp [q'])) q)) hf (Nat.le_refl _) new
    refine ⟨.ref s.heap.objs.size, _, I1, rfl, ⟨_, x, y, rfl, I.hok.fresh (Nat.le_refl _), rfl, fun l hl => by rw [SqB.inj I hl hqx]; exact hx, fun l hl => by rw [SqB.inj I hl hqy]; exact hy⟩, ⟨z'', ?_, ⟨x1, x2, ?_⟩, ?_, ?_⟩, fun c hcm => ?_⟩
    · exact (sb.2 _ S.TIz).trans (hk _ _ S.TIz S.TITO S.TIi1 S.TIi2 hTI)
    · exact (sb.2 _ S.TOz).trans TO'
    · exact h1'.1.at fun o q => (sb.2 _ S.zi1.symm).trans q
    · exact h2'.1.at fun o q => (sb.2 _ S.zi2.symm).trans q
    · have hlt : c < s.heap.objs.size := by
        have e' : c = z ∨ c = TI ∨ c = TO ∨ c = i1 ∨ c = i2 := by simpa using hcm
        rcases e' with q | q | q | q | q
        · rw [q]; exact hzl
        · rw [q]; exact Heap.lt_size hTI
        · rw [q]; exact Heap.lt_size hTO
        · rw [q]; exact hi1
        · rw [q]; exact hi2
      rw [upd_ne (Nat.ne_of_lt hlt)]
      exact (hf c hcm).1
  done := by
    intro X hP hw hK hc i pins s σ H E I hf st hg
    subst hP hw hK
    obtain ⟨hz, hTI, ⟨x0, y0, hTO⟩, h1, h2⟩ := st
    obtain ⟨xs, ys, hqx, hqy, hend, le1, le2⟩ := hg
    obtain ⟨its, rv, p, _⟩ := hqx.items I
    obtain ⟨its2, rv2, p2, _⟩ := hqy.items I
    have l1 := rv.length
    have l2 := rv2.length
    have z1 : its.toArray.size = its.length := by simp
    have z2 : its2.toArray.size = its2.length := by simp
    refine wpAny_pyNext_zipD2_end (i := i) (A := X.A) S (drawsB t (A := X.A.in1) (I.ok.hd hc) i1 a na its.toArray) (drawsB u (A := X.A.in1) (I.ok.hd hc) i2 b nb its2.toArray) hz hTI hTO ⟨h1, p⟩ ⟨h2, p2⟩ (by omega) (by omega) (by omega) fun h' tk hk => ?_
    exact ⟨rfl, I.turnedL (t' := tk) (ch := [z, TI, TO, i1, i2]) (fun c o hb q =>
      hk c o (fun q' => hb (by simp [q'])) (fun q' => hb (by simp [q'])) (fun q' => hb (by simp [q'])) (fun q' => hb (by simp [q'])) q) hf⟩
  self := fun A i s Q E st h => wpAny_pyIter_zip st.1 h
theorem begB (t : Bool) (l : Addr) (items : Array Value) : ∃ o, Begins (.ref l) o (fun h => sqB t h l items) ∧ ∀ h it, h.get? it = some o → itB t h it l 0 := by
  cases t
  · exact ⟨_, begins_list l items, fun h it e => ⟨_, e, rfl, rfl⟩⟩
  · exact ⟨_, begins_tuple l items, fun h it e => ⟨_, e, rfl, rfl⟩⟩
def iZipB (K : PySem.W.Frag) (ta : TA) : TI := fun σ H R => ta σ H fun vs H1 => ∃ t u a b xs ys, vs = [.ref a, .ref b] ∧ SqB t K H1 a xs ∧ SqB u K H1 b ys ∧ R (ItzB t u K a b) H1
theorem pi_zipB {X : Cx} {e e2 : Expr} {ta : TA} {p pos tpos : Pos} {elts : List Expr} {kk : Nat} (hg : Gl X "zip") (hm : X.mg "zip" = none) (ha : PA X [e, e2] ta)
    (hs : starEach [e, e2] X.env = (false, eval e X.env) :: starEach [e2] X.env := by rfl) (hpl : (backTo pos (starEach [e2] X.env)).any (·.1) = false := by rfl) :
    PI X (.Tuple elts kk tpos) (.Call (.Name "zip" p) [e, e2] [] pos) (iZipB X.K ta) := by
  refine ⟨fun pins s σ H R I h => ?_⟩
  refine Call_ (ld_blt I hg hm PyProof.Rows.boot_zip (PyProof.Rows.callWith_type1 (thn (ha.run pos pins s σ H _ I h) fun us s1 ⟨vs, H1, I1, r1, q1⟩ => ?_) hs hpl))
  obtain ⟨t, u, a, b, xs, ys, ex, hqx, hqy, q⟩ := q1
  subst ex
  cases r1 with
  | cons r rr =>
    cases rr with
    | cons r' rr =>
      cases rr
      cases r
      cases r'
      have fresh5 : ∀ c, c ∈ [s1.heap.objs.size + 4, s1.heap.objs.size + 2, s1.heap.objs.size + 3, s1.heap.objs.size, s1.heap.objs.size + 1] → FpOk X pins H1 c := fun c hcm => by
        have e' : c = s1.heap.objs.size + 4 ∨ c = s1.heap.objs.size + 2 ∨ c = s1.heap.objs.size + 3 ∨ c = s1.heap.objs.size ∨ c = s1.heap.objs.size + 1 := by simpa using hcm
        have hle : s1.heap.objs.size ≤ c := by omega
        exact I1.fpOk hle (I1.hok.fresh hle)
      obtain ⟨its, rv, p1, l1⟩ := hqx.items I1
      obtain ⟨its2, rv2, p2, l2⟩ := hqy.items I1
      obtain ⟨o1, B1, b1⟩ := begB t a its.toArray
      obtain ⟨o2, B2, b2⟩ := begB u b its2.toArray
      refine zip_begins2 B1 B2 p1 p2 fun h' hz hTI hTO h1 h2 hsz hk => wpAny_pyIter_zip hz ?_
      have I2 : Inv X pins σ H1 { s1 with heap := h' } := I1.kept (t' := s1.toks) hk
      refine ⟨s1.heap.objs.size + 4, [s1.heap.objs.size + 4, s1.heap.objs.size + 2, s1.heap.objs.size + 3, s1.heap.objs.size, s1.heap.objs.size + 1], _, _, H1, rfl, I2, turn_zipB ⟨?_, ?_, ?_, ?_, ?_, ?_, ?_, ?_, ?_, ?_, ?_, ?_, ?_⟩ (Nat.ne_of_lt l1) (Nat.ne_of_lt (Nat.lt_succ_of_lt l2)), ⟨hz, hTI, ⟨_, _, hTO⟩, b1 _ _ h1, b2 _ _ h2⟩, fresh5, q⟩
      all_goals (have q1 : ∀ k, s1.heap.objs.size + k ≠ a := fun k => Nat.ne_of_gt (Nat.lt_of_lt_of_le l1 (Nat.le_add_right _ _)))
      all_goals (have q2 : ∀ k, s1.heap.objs.size + k ≠ b := fun k => Nat.ne_of_gt (Nat.lt_of_lt_of_le l2 (Nat.le_add_right _ _)))
      all_goals (have q3 := q1 0)
      all_goals (have q4 := q2 0)
      all_goals (rw [Nat.add_zero] at q3 q4)
      all_goals (simp [q1, q2, q3, q4])
section
variable {G : Gc} {x m : List Addr} {H : Hp} {a b : Addr} {ds es : List D} {xs ys : List V}
/-- a list that is no cell, or a tuple -/
def SqD (G : Gc) (e : List Addr) (t : Bool) (H : Hp) (a : Addr) (xs : List V) : Prop := match t with
  | true => SqT G.K H a xs
  | false => H a = some (.lst xs) ∧ a ∉ e
theorem SqD.ext {t : Bool} {x2 m2 : List Addr} {H2 : Hp} (h : SqD G (x ++ m) t H a xs) (E : Ext G m H m2 H2) : SqB t G.K H2 a xs := by
  cases t
  · exact .inl (.inl (E.keep _ _ h.1 (fun z => h.2 (List.mem_append_right _ z)) (fun ps z => by cases z)))
  · exact SqT.ext E h
theorem pairs_stop : ∀ {ds es : List D} {i : Nat}, i ≤ (pairs ds es).length → i ≤ ds.length ∧ i ≤ es.length
  | _, _, 0, _ => ⟨Nat.zero_le _, Nat.zero_le _⟩
  | [], _, i + 1, h => by simp [pairs] at h
  | _ :: _, [], i + 1, h => by simp [pairs] at h
  | d :: ds, e :: es, i + 1, h => by
    have := pairs_stop (ds := ds) (es := es) (i := i) (by simpa [pairs] using h)
    simp only [List.length_cons]; omega
theorem yl_zipB {t u : Bool} (h : SqD G (x ++ m) t H a xs) (h' : SqD G (x ++ m) u H b ys) (r : RVs G (x ++ m) H ds xs) (r' : RVs G (x ++ m) H es ys) : Yl G x m H (ItzB t u G.K a b) (pairs ds es) := fun x2 m2 H2 hx E tr i => by
  have h2 := h.ext (x2 := x2) E
  have h2' := h'.ext (x2 := x2) E
  have r2 := r.keep (E.kp2 hx)
  have r2' := r'.keep (E.kp2 hx)
  refine ⟨fun d hd => ?_, fun hl => ⟨xs, ys, h2, h2', by rw [← r.len, ← r'.len]; exact pairs_get.2 (Nat.le_of_eq hl), by rw [← r.len]; exact (pairs_stop (Nat.le_of_eq hl.symm)).1, by rw [← r'.len]; exact (pairs_stop (Nat.le_of_eq hl.symm)).2⟩⟩
  obtain ⟨d1, d2, g1, g2, rfl⟩ := pairs_get.1 d hd
  obtain ⟨v, q1, q2⟩ := r2.get g1
  obtain ⟨v', q1', q2'⟩ := r2'.get g2
  refine ⟨⟨xs, ys, v, v', h2, h2', q1, q1'⟩, fun w H3 ⟨T, y1, y2, e1, e2, e3, e4, e5⟩ => ?_⟩
  have z1 := e4 xs h2
  have z2 := e5 ys h2'
  rw [q1] at z1
  rw [q1'] at z2
  cases z1
  cases z2
  subst e1 e3
  exact newPair e2 tr q2 q2'
end
def seqU : U → Option (List D)
  | .d (.tup xs) => some xs
  | .d (.lst xs) => some xs
  | _ => none
def zpBI (f g : ME) : MI := fun ρ S => (argsM [f, g] ρ S).bind fun us S1 => match us with
  | [u, v] => match seqU u, seqU v with
    | some xs, some ys => .ok (pairs xs ys) S1
    | _, _ => .un
  | _ => .un
theorem seqU_ok {G : Gc} {e m : List Addr} {H : Hp} {u : U} {v : V} {ds : List D} (r : RU G e m H u v) (h : seqU u = some ds) : ∃ t a xs, v = .ref a ∧ SqD G e t H a xs ∧ RVs G e H ds xs := by
  unfold seqU at h
  split at h
  · cases h
    cases r with
    | d r => cases r with
      | tup t1 t2 => exact ⟨true, _, _, rfl, t1, t2⟩
  · cases h
    cases r with
    | d r => cases r with
      | lst t1 tn t2 => exact ⟨false, _, _, rfl, ⟨t1, tn⟩, t2⟩
  · cases h
theorem SqD.b {G : Gc} {e : List Addr} {t : Bool} {H : Hp} {a : Addr} {xs : List V} (h : SqD G e t H a xs) : SqB t G.K H a xs := by
  cases t
  · exact .inl (.inl h.1)
  · exact h
section
variable {X : Cx} {T : List (Addr × Str)} {W : WX} {tg e e2 : Expr} {f g : ME} {p pos : Pos}
theorem i_zip2 {elts : List Expr} {kk : Nat} {tpos : Pos} (hm : X.mg "zip" = none) (ha : PA X [e, e2] (tA (gOf X T) W (argsM [f, g]))) (hg : Gl X "zip" := by rfl) (hs : starEach [e, e2] X.env = (false, eval e X.env) :: starEach [e2] X.env := by rfl) (hpl : (backTo pos (starEach [e2] X.env)).any (·.1) = false := by rfl) :
    PI X (.Tuple elts kk tpos) (.Call (.Name "zip" p) [e, e2] [] pos) (tI (gOf X T) W (zpBI f g)) := pi_mono (pi_zipB hg hm ha hs hpl) fun σ H R h => by
  obtain ⟨x, m, ρ, S, p, h⟩ := h
  refine ⟨x, m, ρ, S, p, (Post.bind h).mono fun us S1 m1 H1 E1 R1 ⟨_, _, h1⟩ vs rvs => ?_⟩
  split at h1
  · split at h1
    · rename_i xs ys q1 q2
      cases rvs with
      | cons r t => cases t with
        | cons r' t =>
          cases t
          obtain ⟨t, a, zs, rfl, s1, s2⟩ := seqU_ok r q1
          obtain ⟨t', b, zs', rfl, s3, s4⟩ := seqU_ok r' q2
          exact ⟨t, t', a, b, zs, zs', rfl, s1.b, s3.b, h1 m1 H1 Ext.refl R1 _ (yl_zipB s1 s3 s2 s4)⟩
    · exact h1.elim
  · exact h1.elim

/-! ### texts -/
def chs (x : Str) : List D := x.cps.toList.map fun c => .str ⟨#[c]⟩
def strI (f : ME) : MI := fun ρ S => (f ρ S).bind fun u S1 => match u with
  | .d (.str x) => .ok (chs x) S1
  | _ => .un
theorem yl_str {G : Gc} {x m : List Addr} {H : Hp} {z : Str} : Yl G x m H (Its z) (chs z) := fun x2 m2 H2 hx E tr i => by
  refine ⟨fun d hd => ?_, fun hl => (by show z.cps.size ≤ i; rw [← hl]; simp [chs])⟩
  unfold chs at hd
  rw [List.getElem?_map] at hd
  cases q : z.cps.toList[i]? with
  | none => rw [q] at hd; cases hd
  | some c =>
    rw [q] at hd
    cases hd
    have q' : z.cps[i]? = some c := by simpa using q
    refine ⟨(Array.getElem?_eq_some_iff.mp q').1, fun v H3 ⟨e1, c', e2, e3⟩ => ?_⟩
    subst e1 e3
    rw [q'] at e2
    cases e2
    exact ⟨Ext.refl, fun _ _ _ => rfl, .str _⟩
theorem i_str (he : PE X e (tE (gOf X T) W f)) : PI X tg e (tI (gOf X T) W (strI f)) := pi_mono (pi_str he) fun σ H R h => by
  obtain ⟨x, m, ρ, S, p, h⟩ := h
  refine ⟨x, m, ρ, S, p, (Post.bind h).mono fun u S1 m1 H1 E1 R1 ⟨_, _, h1⟩ v rv => ?_⟩
  split at h1
  · cases rv with
    | d r =>
      cases r
      exact ⟨_, rfl, h1 m1 H1 Ext.refl R1 _ yl_str⟩
  · exact h1.elim
def strG : List D → Option D
  | [.int i] => if i.natAbs.log2 < 1920 then some (.str (toString i)) else none
  | [.str x] => some (.str x)
  | _ => none
theorem c_str : CallR X (.type "str") (rC (gOf X T) strG) := by
  intro pins s σ H vs us Q I rs ⟨ds, z, e, m, hg, tr, r, q⟩
  unfold strG at hg
  split at hg
  · split at hg
    · rename_i hl
      cases hg
      obtain ⟨v, rfl, r1⟩ := r.one
      cases r1.int
      exact call_str_int pins s σ H _ us Q I rs ⟨_, rfl, hl, q _ _ Ext.refl (noKeep rfl) (.str _)⟩
    · cases hg
  · cases hg
    obtain ⟨v, rfl, r1⟩ := r.one
    cases r1.str
    exact SkE.call_str_str pins s σ H _ us Q I rs ⟨_, rfl, q _ _ Ext.refl (noKeep rfl) (.str _)⟩
  · cases hg

/-! ### methods of texts -/
def meM (g : D → List D → Option D) (fo : ME) (fs : List ME) : ME := fun ρ S => (fo ρ S).bind fun u S1 => match u with
  | .d (.str z) => (argsM fs ρ S1).bind fun us S2 => match rds S2 us with
    | some ds => match g (.str z) ds with
      | some z => .ok (.d z) S2
      | none => .un
    | none => .un
  | _ => .un
def rM (G : Gc) (g : D → List D → Option D) : V → List V → Hp → VK → Prop := fun v vs H Q => ∃ z ds d e m, v = .str z ∧ g (.str z) ds = some d ∧ (∀ b ∈ e, ∃ o, H b = some o) ∧ RTs G e H ds vs ∧
  ∀ H' w, Ext G m H m H' → (∀ a ∈ m, H a ≠ none → H' a = H a) → RV G e H' d w → Q w H'
theorem me_red {g : D → List D → Option D} {fs : List ME} {σ : St} {H : Hp} {Q : VK} (h : tE (gOf X T) W (meM g f fs) σ H Q) : tBM X.K "str" (rM (gOf X T) g) (tE (gOf X T) W f) (tA (gOf X T) W (argsM fs)) σ H Q := by
  obtain ⟨x, m, ρ, S, p, h⟩ := h
  refine ⟨x, m, ρ, S, p, (Post.bind h).mono fun u S1 m1 H1 E1 R1 ⟨_, _, h1⟩ v rv => ?_⟩
  cases u with
  | c _ => exact h1.elim
  | t _ => exact h1.elim
  | d dd =>
   cases dd with
   | str z =>
    cases rv with
    | d r =>
      cases r
      have p1 := p.ext E1 R1
      refine ⟨rfl, x, m1, ρ, S1, p1, (Post.bind h1).mono fun us S2 m2 H2 E2 R2 ⟨_, _, h2⟩ vs rvs => ?_⟩
      have p2 := p1.ext E2 R2
      split at h2
      · rename_i ds q1
        split at h2
        · rename_i d q3
          exact ⟨z, ds, d, x ++ m2, m2, rfl, q3, p2.trk, RUs.rts R2 rvs q1, fun H' w' E3 hs r => h2 m2 H' E3 (R2.stay E3 fun a ha => hs a ha (by obtain ⟨o, q⟩ := R2.live ha; rw [q]; simp)) w' (.d r)⟩
        · exact h2.elim
      · exact h2.elim
   | _ => exact h1.elim
theorem e_me {id : String} {name : Str} {g : D → List D → Option D} {o : Expr} {es : List Expr} {fs : List ME} {apos : Pos} (slot : Slot "str" name id) (hty : typeOf (.builtin id) = pure (.type "method_descriptor")) (hm : MtR X id (rM (gOf X T) g)) (ho : PE X o (tE (gOf X T) W f)) (ha : PA X (e :: es) (tA (gOf X T) W (argsM fs)))
    (hbase : attributeBase o name X.env (eval o X.env) = eval o X.env := by rfl)
    (hfew : ((backTo pos (starEach (e :: es) X.env)).all (fun x => !x.1) && (backToKw pos (keywordEach [] X.env)).all (fun x => x.1.isSome)
      && decide ((e :: es).length + ([] : List Keyword).length + (if ([] : List Keyword).isEmpty then 0 else 1) < 30)) = true := by rfl)
    (hline : (apos.endLine == pos.line) = true := by rfl) (hs : starEach (e :: es) X.env = (false, eval e X.env) :: starEach es X.env := by rfl) (hplain : (backTo pos (starEach es X.env)).any (·.1) = false := by rfl) :
    PE X (.Call (.Attribute o name apos) (e :: es) [] pos) (tE (gOf X T) W (meM g f fs)) :=
  pe_mono (pe_bm PySem.F.plainAttrs_str slot hty hm ho ha hbase hfew hline hs hplain) fun σ H Q h => me_red h
def joinG : D → List D → Option D
  | .str a, [.lst xs] => match strsOf xs with
    | some ys => if (ys.map (·.length)).sum + ys.length * a.length ≤ big then some (.str (Txt.join a ys)) else none
    | none => none
  | .str a, [.tup xs] => match strsOf xs with
    | some ys => if (ys.map (·.length)).sum + ys.length * a.length ≤ big then some (.str (Txt.join a ys)) else none
    | none => none
  | _, _ => none
theorem big_join {n : Nat} (h : n ≤ big) : n ≤ 16777216 := Nat.le_trans h (by decide)
theorem mt_joinG : MtR X "str.join" (rM (gOf X T) joinG) := by
  intro pins s σ H x xs v us Q I rx rs ⟨z, ds, d, e, m, ez, hg, tr, r, q⟩
  subst ez
  unfold joinG at hg
  split at hg
  · rename_i q1
    cases q1
    split at hg
    · rename_i ys hy
      split at hg
      · rename_i hl
        cases hg
        obtain ⟨v, rfl, r1⟩ := r.one
        obtain ⟨a, vs, rfl, g1, g2⟩ := r1.lst'
        cases g2.strs hy
        exact mt_join pins s σ H _ _ _ us Q I rx rs ⟨_, a, ys, rfl, rfl, .inl (.of g1), big_join hl, q _ _ Ext.refl (noKeep rfl) (.str _)⟩
      · cases hg
    · cases hg
  · rename_i q1
    cases q1
    split at hg
    · rename_i ys hy
      split at hg
      · rename_i hl
        cases hg
        obtain ⟨v, rfl, r1⟩ := r.one
        obtain ⟨a, vs, rfl, g1, g2⟩ := r1.tup
        cases g2.strs hy
        exact mt_join pins s σ H _ _ _ us Q I rx rs ⟨_, a, ys, rfl, rfl, .inr g1, big_join hl, q _ _ Ext.refl (noKeep rfl) (.str _)⟩
      · cases hg
    · cases hg
  · cases hg
def splG : D → List D → Option D
  | .str a, [.str b] => if b.length ≠ 0 ∧ a.length ≤ big then some (.lst ((Txt.split a b).map .str)) else none
  | _, _ => none
theorem rvs_strs {G : Gc} {e : List Addr} {H : Hp} : ∀ ns : List Str, RVs G e H (ns.map D.str) (ns.map V.str)
  | [] => .nil
  | n :: ns => .cons (.str n) (rvs_strs ns)
theorem mt_splG : MtR X "str.split" (rM (gOf X T) splG) := by
  intro pins s σ H x xs v us Q I rx rs ⟨z, ds, d, e, m, ez, hg, tr, r, q⟩
  subst ez
  unfold splG at hg
  split at hg
  · rename_i q1
    cases q1
    split at hg
    · rename_i hl
      cases hg
      obtain ⟨v, rfl, r1⟩ := r.one
      cases r1.str
      exact mt_split pins s σ H _ _ _ us Q I rx rs ⟨_, _, rfl, rfl, by simpa using hl.1, Nat.le_trans (Nat.add_le_add_right hl.2 2) (by rw [sizeLine_eq]; decide), fun p np => q _ _ (Ext.new np) (newKeep np) (RV.newLst (rvs_strs _) np tr)⟩
    · cases hg
  · cases hg
abbrev joiM (f g : ME) : ME := meM joinG f [g]
abbrev splM (f g : ME) : ME := meM splG f [g]

/-! ### a dict of the module: texts as keys -/
def dlk : List (Str × D) → Str → Option D
  | [], _ => none
  | (k, v) :: r, x => if k = x then some v else dlk r x
structure KM (G : Gc) (x : Str) (tbl : List (Str × D)) : Prop where
  ex : ∃ (a : Addr) (es : Array DictEntry) (n : Nat), G.mg x = some (.ref a) ∧ G.K.lookup a = some ⟨.type "dict", none, .dict es n, #[]⟩ ∧ PySem.W.KeysLit G.w.params es.toList ∧ (a == sysModules) = false ∧
    ∀ z, ∃ r, PySem.W.nsIn G.K a z = some r ∧ match dlk tbl z with
      | none => r = none
      | some d => ∃ u v, r = some u ∧ RelV v u ∧ ∀ e H, RV G e H d v
def kmIx (tbl : List (Str × D)) (f : ME) : ME := fun ρ S => (f ρ S).bind fun u S1 => match u with
  | .d (.str z) => match dlk tbl z with
    | some d => .ok (.d d) S1
    | none => .un
  | _ => .un
def kmIn (tbl : List (Str × D)) (f : ME) : ME := fun ρ S => (f ρ S).bind fun u S1 => match u with
  | .d (.str z) => .ok (.d (.bl (dlk tbl z).isSome)) S1
  | _ => .un
theorem e_kmIx {x : Str} {tbl : List (Str × D)} {b : Expr} {px : Pos} (h : KM (gOf X T) x tbl) (hb : PE X b (tE (gOf X T) W f)) (hg : Gl X x := by rfl) (hd : (x == ("__debug__" : Str)) = false := by decide) (hs : PlainIx b := by intro _ _; rfl) :
    PE X (.Subscript (.Name x px) b pos) (tE (gOf X T) W (kmIx tbl f)) := by
  obtain ⟨a, es, n, h1, h2, h3, h4, h5⟩ := h.ex
  refine pe_mono (pe_ix (r := fun vx vy H Q => vx = .ref a ∧ ∃ z v, vy = .str z ∧ KDct X.K X.w a z v ∧ Q v H) (fun value slice pins s σ H x y v u Q I rx ry h hs => ?_) (pe_glob hg h1 (v := .ref a) rfl hd) hb hs) fun σ H Q h => ?_
  · obtain ⟨e1, z, r, e2, e3, q⟩ := h
    exact ix_kdict value slice pins s σ H x y v u Q I rx ry ⟨a, z, r, e1, e2, e3, q⟩ hs
  · obtain ⟨y, m, ρ, S, p, h⟩ := h
    refine ⟨y, m, ρ, S, p, (Post.bind h).mono fun u S1 m1 H1 E1 R1 ⟨_, _, h1'⟩ v rv => ?_⟩
    cases u with
    | c _ => exact h1'.elim
    | t _ => exact h1'.elim
    | d dd =>
     cases dd with
     | str z =>
      cases rv with
      | d r =>
        cases r
        dsimp only at h1'
        split at h1'
        · rename_i d hd'
          obtain ⟨r, r1, r2⟩ := h5 z
          rw [hd'] at r2
          obtain ⟨u, v, rfl, r3, r4⟩ := r2
          exact ⟨rfl, z, v, rfl, ⟨es, n, u, h2, h3, r1, r3⟩, h1' m1 H1 Ext.refl R1 _ (.d (r4 _ _))⟩
        · exact h1'.elim
     | _ => exact h1'.elim
theorem e_kmIn {x : Str} {tbl : List (Str × D)} {b : Expr} {px : Pos} (h : KM (gOf X T) x tbl) (hb : PE X b (tE (gOf X T) W f)) (hg : Gl X x := by rfl) (hd : (x == ("__debug__" : Str)) = false := by decide) :
    PE X (.Compare b [.In] [.Name x px] pos) (tE (gOf X T) W (kmIn tbl f)) := by
  obtain ⟨a, es, n, h1, h2, h3, h4, h5⟩ := h.ex
  refine pe_mono (pe_cmpR (op_in_kd ⟨h2, h3, h4⟩) hb (pe_glob hg h1 (v := .ref a) rfl hd) (by first | exact nomark _ | rfl)) fun σ H Q h => ?_
  obtain ⟨y, m, ρ, S, p, h⟩ := h
  refine ⟨y, m, ρ, S, p, (Post.bind h).mono fun u S1 m1 H1 E1 R1 ⟨_, _, h1'⟩ v rv => ?_⟩
  cases u with
  | c _ => exact h1'.elim
  | t _ => exact h1'.elim
  | d dd =>
   cases dd with
   | str z =>
    cases rv with
    | d r =>
      cases r
      obtain ⟨r, r1, r2⟩ := h5 z
      refine ⟨z, r, rfl, rfl, r1, ?_⟩
      have er : r.isSome = (dlk tbl z).isSome := by
        revert r2
        cases dlk tbl z with
        | none => intro r2; subst r2; rfl
        | some d => rintro ⟨u, v, rfl, _⟩; rfl
      rw [er]
      exact h1' m1 H1 Ext.refl R1 _ (.d (.bl _))
   | _ => exact h1'.elim
end
end Mir

/-! Mir16: the end: constants of the module; the law's own promise. -/
namespace Mir
open PySem PySem.Spec PyProof.Rows L2 RZ
mutual
/-- data of the module -/
inductive KVal (K : PySem.W.Frag) : D → Value → Prop
  | non : KVal K .non .none
  | bl (b : Bool) : KVal K (.bl b) (.bool b)
  | int (i : Int) (t : Tok) : KVal K (.int i) (.int i t)
  | str (x : Str) (t : Tok) : KVal K (.str x) (.str x t)
  | tup {a : Addr} {dd : Option Addr} {its : Array Value} {n : Nat} {sl : Array (Option Value)} {ds : List D} : K.lookup a = some ⟨.type "tuple", dd, .seq its n, sl⟩ → its.size ≤ 1000 → KVals K ds its.toList → KVal K (.tup ds) (.ref a)
inductive KVals (K : PySem.W.Frag) : List D → List Value → Prop
  | nil : KVals K [] []
  | cons {d : D} {u : Value} {ds : List D} {us : List Value} : KVal K d u → KVals K ds us → KVals K (d :: ds) (u :: us)
end
section
variable {G : Gc}
mutual
theorem KVal.ok : ∀ {d : D} {u : Value}, KVal G.K d u → ∃ v, RelV v u ∧ ∀ e H, RV G e H d v
  | _, _, .non => ⟨.non, rfl, fun _ _ => .non⟩
  | _, _, .bl b => ⟨.bl b, rfl, fun _ _ => .bl b⟩
  | _, _, .int i t => ⟨.int i, ⟨t, rfl⟩, fun _ _ => .int i⟩
  | _, _, .str x t => ⟨.str x, ⟨t, rfl⟩, fun _ _ => .str x⟩
  | _, _, .tup (a := a) (its := its) h1 h2 h3 => by
    obtain ⟨vs, h4, h5⟩ := KVals.ok h3
    exact ⟨.ref a, rfl, fun e H => .tup (.inr ⟨_, its, _, h1, rfl, rfl, Nat.le_of_lt (small1000 h2), h4⟩) (h5 e H)⟩
theorem KVals.ok : ∀ {ds : List D} {us : List Value}, KVals G.K ds us → ∃ vs, Vals vs us ∧ ∀ e H, RVs G e H ds vs
  | _, _, .nil => ⟨[], .nil, fun _ _ => .nil⟩
  | _, _, .cons h t => by
    obtain ⟨v, h1, h2⟩ := KVal.ok h
    obtain ⟨vs, h3, h4⟩ := KVals.ok t
    exact ⟨v :: vs, .cons h1 h3, fun e H => .cons (h2 e H) (h4 e H)⟩
end
end
section
variable {P : Program} {w : World} {K : PySem.W.Frag} {mg : Str → Option Value} {T : List (Addr × Str)} {h : Heap} {x : Str}
theorem kd_of {d : D} {u : Value} (X : K.In h) (G : h.Ns mainGlobals mg) (a : PySem.W.nsIn K mainGlobals x = some (some u)) (q : KVal K d u) : KD ⟨P, w, K, mg, T⟩ x d := by
  obtain ⟨v, h1, h2⟩ := KVal.ok (G := ⟨P, w, K, mg, T⟩) q
  exact ⟨u, v, PySem.W.mg_of X G a, h1, h2⟩
/-- the values of a written dict -/
inductive KEnts (K : PySem.W.Frag) : List (Str × D) → List DictEntry → Prop
  | nil : KEnts K [] []
  | cons {x : Str} {d : D} {e : DictEntry} {t : Tok} {ds : List (Str × D)} {es : List DictEntry} : e.key = .str x t → KVal K d e.val → KEnts K ds es → KEnts K ((x, d) :: ds) (e :: es)
theorem kents_find : ∀ {tbl : List (Str × D)} {es : List DictEntry} (z : Str), KEnts K tbl es → match dlk tbl z with
    | none => es.find? (fun e => e.key.isStr z) = none ∧ es.any (·.refKey) = false
    | some d => ∃ e, es.find? (fun e => e.key.isStr z) = some e ∧ KVal K d e.val
  | _, _, z, .nil => ⟨rfl, rfl⟩
  | _, _, z, .cons (x := y) (d := d) (e := e) (t := t) h1 h2 h3 => by
    have ih := kents_find z h3
    have hk : e.key.isStr z = (y == z) := by
      rw [PySem.W.isStr_of, h1]; rfl
    have hr : e.refKey = false := by
      unfold DictEntry.refKey
      rw [h1]
    unfold dlk
    by_cases q : y = z
    · rw [if_pos q]
      exact ⟨e, by rw [List.find?_cons, hk, beq_iff_eq.mpr q], h2⟩
    · rw [if_neg q]
      have q' : (y == z) = false := beq_eq_false_iff_ne.mpr q
      revert ih
      cases dlk _ z with
      | none => exact fun ih => ⟨by rw [List.find?_cons, hk, q']; exact ih.1, by rw [List.any_cons, hr]; exact ih.2⟩
      | some d' => exact fun ⟨e', h4, h5⟩ => ⟨e', by rw [List.find?_cons, hk, q']; exact h4, h5⟩
theorem km_of {tbl : List (Str × D)} {a : Addr} {es : Array DictEntry} {n : Nat} (X : K.In h) (G : h.Ns mainGlobals mg) (g : PySem.W.nsIn K mainGlobals x = some (some (.ref a))) (l : K.lookup a = some ⟨.type "dict", none, .dict es n, #[]⟩) (kl : PySem.W.KeysLit w.params es.toList)
    (lo : (a == sysModules) = false) (q : KEnts K tbl es.toList) : KM ⟨P, w, K, mg, T⟩ x tbl := by
  refine ⟨a, es, n, PySem.W.mg_of X G g, l, kl, lo, fun z => ?_⟩
  have hf := kents_find z q
  have hn : PySem.W.nsIn K a z = match es.toList.find? (fun e => e.key.isStr z) with
      | some e => some (some e.val)
      | none => if es.toList.any (·.refKey) then none else some none := by
    unfold PySem.W.nsIn
    rw [l]
    rfl
  revert hf
  cases dlk tbl z with
  | none =>
    rintro ⟨h1, h2⟩
    exact ⟨none, by rw [hn, h1, h2]; rfl, rfl⟩
  | some d =>
    rintro ⟨e, h1, h2⟩
    obtain ⟨v, h3, h4⟩ := KVal.ok (G := ⟨P, w, K, mg, T⟩) h2
    exact ⟨some e.val, by rw [hn, h1], e.val, v, rfl, h3, h4⟩
end
/-! ### the law -/
/-- what is promised of law: of a script that nobody changes, True -/
def spLaw (K : PySem.W.Frag) : Sp := fun vs H Q _ => ∃ (a : Addr) (ns : List Int), vs = [.ref a] ∧ ns.length ≤ 63 ∧ Sc K H a ns ∧ ∀ H', Q (.bl true) H'
theorem sc_of {K : PySem.W.Frag} {H : Hp} {a : Addr} {ns : List Int} (hO : Only H) (hS : SqL K H a (ns.map V.int)) : Sc K H a ns := by
  rcases hS with (h | h) | h
  · rcases hO a with z | ⟨o, xs, z⟩
    · rw [z] at h; cases h
    · rw [z] at h; cases h
  · exact .inl h
  · exact .inr h
theorem law_imp {P : Program} {w : World} {K : PySem.W.Frag} {mg : Str → Option Value} {base : Heap} {k : Nat} {f : Addr} {fd : FuncData} {F : List D → R} (h : FnOk P w K mg base (L2.CX P w) k f fd ["script"] (sp0 ⟨P, w, K, mg, []⟩ 1 F))
    (hF : ∀ ns : List Int, ns.length ≤ 63 → F [.scr ns] = .ok (.bl true)) : FnOk P w K mg base (L2.CX P w) k f fd ["script"] (spLaw K) := h.imp fun vs H Q E ⟨a, ns, e, hl, hS, hQ⟩ => by
  subst e
  refine ⟨rfl, [], [.scr ns], fun _ z => (by cases z), fun _ z => (by cases z), .cons (.scr hS) .nil, ?_⟩
  rw [hF ns hl]
  intro H' v _ r
  cases r
  exact hQ H'
theorem cx_none {P : Program} {w : World} {H : Hp} {s : Shared} {e : Value} {s' : Shared} (h : L2.CX P w [] H s (fun _ _ _ => False) e s') : False := by
  obtain ⟨_, _, _, _, _, _, _, _, _, _, _, _, h⟩ := h
  exact h
theorem kn_of {P : Program} {w : World} {K : PySem.W.Frag} {mg : Str → Option Value} {base : Heap} {T : List (Addr × Str)} {h : Heap} {j k : Nat} {x : Str} {f : Addr} {fd : FuncData} {ps : List Str} {sp : Sp} (X : K.In h) (G : h.Ns mainGlobals mg) (hF : FnOk P w K mg base (L2.CX P w) j f fd ps sp) (a : PySem.W.nsIn K mainGlobals x = some (some (.ref f))) (kp : PySem.W.keepIn K (.ref f) = true) (b : Binds K fd ps []) (hk : j ≤ k) :
    Kn ⟨P, w, K, mg, T⟩ base k x sp := ⟨f, fd, ps, hF.mono hk, PySem.W.mg_of X G a, kp, b⟩
end Mir

/-! Mir17: a comprehension's list as a cell. -/
namespace Mir
open PySem PySem.Spec PyProof.Rows L2 RZ
def nlcM (it : MI) (tg : Tg) (t : MT) (f : ME) (own : List Nat) : ME := fun ρ S => (it ρ S).bind fun ds S1 =>
  if ds.length ≤ big then match lcL tg t f (wipeE ρ own) ds S1 with
    | .ok ys S2 => .ok (.c S2.length) (S2 ++ [.lst ys])
    | _ => .un
  else .un
section
variable {X : Cx} {T : List (Addr × Str)} {W : WX}
theorem nlc_red {fi : MI} {t : MT} {f : ME} {tgt : Tg} {own : List Nat} (ho : ∀ i ∈ tgt.ix, i ∈ own) {σ : St} {H : Hp} {Q : VK} (h : tE (gOf X T) W (nlcM fi tgt t f own) σ H Q) :
    tLc (tI (gOf X T) W fi) (gT X.K tgt) (tT (gOf X T) WF t) (tE (gOf X T) WF f) own σ H Q := by
  obtain ⟨x, m, ρ, S, p, h⟩ := h
  refine ⟨x, m, ρ, S, p, (Post.bind h).mono fun ds S1 m1 H1 E1 R1 ⟨_, _, h1⟩ J hJ => fun D₀ hD => ?_⟩
  have p1 := p.ext E1 R1
  split at h1
  case isFalse => exact h1.elim
  case isTrue hbig =>
  cases hL : lcL tgt t f (wipeE ρ own) ds S1 with
  | un => rw [hL] at h1; exact h1.elim
  | ex ee S' => rw [hL] at h1; exact h1.elim
  | ok ys Sf =>
    rw [hL] at h1
    refine ⟨fun i k H2 => ∃ m2 S2 acc vacc rest, k = ds.length - i ∧ i ≤ ds.length ∧ Ext (gOf X T) m1 H1 m2 H2 ∧ Rp (gOf X T) (D₀ :: x) m2 H2 (wipeE ρ own) S2 (L2.wipe σ own) ∧ H2 D₀ = some (.lst vacc) ∧
      RVs (gOf X T) (D₀ :: x ++ m2) H2 acc vacc ∧ vacc.length ≤ i ∧ lcL tgt t f (wipeE ρ own) (ds.drop i) S2 = .ok rest Sf ∧ ys = acc ++ rest ∧ D₀ ∉ m2,
      ⟨ds.length, m1, S1, [], [], ys, by simp, Nat.zero_le _, Ext.new hD, ⟨(RE.wipeS own p1.env).keep (Keep.hide hD), R1.keep (Keep.hide hD) (fun b hb => List.mem_cons_of_mem _ (List.mem_append_right _ hb)) (fun a ha => by
          obtain ⟨u, q⟩ := R1.live ha
          rw [upd_ne (ne_of_none q hD)]) (fun b y q => by rw [upd_ne (ne_of_none q hD)]; exact q), fun b hb => ?_, p1.tab.ext fun b u q => by rw [upd_ne (ne_of_none q hD)]; exact q⟩, upd_same, .nil, Nat.zero_le _, by rw [List.drop_zero]; exact hL, rfl, fun z => by
          obtain ⟨u, q⟩ := R1.live z
          rw [hD] at q; cases q⟩, ?_⟩
    · rcases List.mem_cons.mp hb with z | z
      · rw [z]; exact ⟨_, upd_same, fun ps z => by cases z⟩
      · obtain ⟨u, q, qn⟩ := p1.ex b z
        exact ⟨u, by rw [upd_ne (ne_of_none q hD)]; exact q, qn⟩
    rintro i k H2 ⟨m2, S2, acc, vacc, rest, rfl, hi, E2, p2, hd2, r2, hv, hl, hy, nD⟩
    have hY := hJ (D₀ :: x) m2 H2 (fun b hb => by
      rcases List.mem_cons.mp hb with z | z
      · exact .inr (by rw [z]; exact hD)
      · exact .inl z) E2 p2.trk i
    by_cases hlt : i < ds.length
    · obtain ⟨hgo, hyl⟩ := hY.1 ds[i] (List.getElem?_eq_getElem hlt)
      rw [List.drop_eq_getElem_cons hlt] at hl
      simp only [lcL] at hl
      refine .inr ⟨hgo, fun H3 => ∃ m3 S3 acc vacc rest, Ext (gOf X T) m1 H1 m3 H3 ∧ Rp (gOf X T) (D₀ :: x) m3 H3 (wipeE ρ own) S3 (L2.wipe σ own) ∧ H3 D₀ = some (.lst vacc) ∧
        RVs (gOf X T) (D₀ :: x ++ m3) H3 acc vacc ∧ vacc.length ≤ i + 1 ∧ lcL tgt t f (wipeE ρ own) (ds.drop (i + 1)) S3 = .ok rest Sf ∧ ys = acc ++ rest ∧ D₀ ∉ m3,
        fun H3 ⟨m3, S3, acc, vacc, rest, a1, a2, a3, a4, a5, a6, a7, a8⟩ => ⟨ds.length - (i + 1), by omega, m3, S3, acc, vacc, rest, rfl, hlt, a1, a2, a3, a4, a5, a6, a7, a8⟩, fun v H3 yv => ?_⟩
      obtain ⟨E3, k3, r3⟩ := hyl v H3 yv
      have R3 : RS (gOf X T) (D₀ :: x ++ m2) m2 H3 S2 := p2.sto.stay E3 fun a ha => k3 a ha (by obtain ⟨o, q⟩ := p2.sto.live ha; rw [q]; simp)
      have p3 := p2.ext E3 R3
      cases hs : setT tgt ds[i] (wipeE ρ own) with
      | none => rw [hs] at hl; cases hl
      | some ρ' =>
        rw [hs] at hl
        dsimp only at hl
        refine tg_ok r3 p3.env hs ho fun σ' re' hw => ⟨by rw [hw, wipe_idem], ?_⟩
        have q3 : Rp (gOf X T) (D₀ :: x) m2 H3 ρ' S2 σ' := ⟨re', R3, p3.ex, p3.tab⟩
        have nD' : ∀ {m m' : List Addr} {H H' : Hp}, Ext (gOf X T) m H m' H' → D₀ ∉ m → Nt H D₀ → D₀ ∉ m' := fun E n q z => by
          obtain ⟨nw, e1, f1⟩ := E.pre
          rw [e1] at z
          rcases List.mem_append.mp z with z | z
          · exact n z
          · exact f1 _ z q
        have d3 : H3 D₀ = some (.lst vacc) := E3.keep _ _ hd2 nD (fun ps z => by cases z)
        refine ⟨D₀ :: x, m2, ρ', S2, q3, ?_⟩
        cases ht : t ρ' S2 with
        | un => rw [ht] at hl; cases hl
        | ex ee S' => rw [ht] at hl; cases hl
        | ok b S3 =>
          rw [ht] at hl
          intro m4 H4 E4 R4
          have q4 := q3.ext E4 R4
          have d4 : H4 D₀ = some (.lst vacc) := E4.keep _ _ d3 nD (fun ps z => by cases z)
          have n4 := nD' E4 nD ⟨_, d3, fun ps z => by cases z⟩
          cases b with
          | false =>
            refine iteF ⟨m4, S3, acc, vacc, rest, (E2.trans E3).trans E4, ⟨(p3.ext E4 R4).env, R4, (p3.ext E4 R4).ex, (p3.ext E4 R4).tab⟩, d4, r2.keep ((E3.trans E4).kp), by omega, hl, hy, n4⟩
          | true =>
            refine iteT ⟨D₀ :: x, m4, ρ', S3, q4, ?_⟩
            dsimp only at hl
            cases hf : f ρ' S3 with
            | un => rw [hf] at hl; cases hl
            | ex ee S' => rw [hf] at hl; cases hl
            | ok u S4 =>
              rw [hf] at hl
              cases u with
              | c j => cases hl
              | t j => cases hl
              | d y =>
                dsimp only at hl
                cases hr : lcL tgt t f (wipeE ρ own) (ds.drop (i + 1)) S4 with
                | un => rw [hr] at hl; cases hl
                | ex ee S' => rw [hr] at hl; cases hl
                | ok rest' S5 =>
                  rw [hr] at hl
                  cases hl
                  intro m5 H5 E5 R5 w rw'
                  have d5 : H5 D₀ = some (.lst vacc) := E5.keep _ _ d4 n4 (fun ps z => by cases z)
                  have n5 := nD' E5 n4 ⟨_, d4, fun ps z => by cases z⟩
                  have E35 := (E3.trans E4).trans E5
                  have p5 := p2.ext E35 R5
                  have kg : Keep (gOf X T) (D₀ :: x ++ m5) H5 (D₀ :: x ++ m5) (upd H5 D₀ (.lst (vacc ++ [w]))) := Keep.grow d5 List.mem_cons_self
                  refine ⟨vacc, d5, Nat.lt_of_le_of_lt hv (Nat.lt_of_lt_of_le hlt (big_ok hbig)), m5, S4, acc ++ [y], vacc ++ [w], rest', (E2.trans E35).grow hD d5, ⟨p5.env.keep kg, R5.keep kg (fun b hb => List.mem_append_right _ hb) (fun a ha => upd_ne fun z => n5 (z ▸ ha)) (fun b y q => by
                      rw [upd_ne (fun z => by rw [z, d5] at q; cases q)]; exact q), fun b hb => ?_, ?_⟩, upd_same, ?_, by simp; omega, hr, by rw [hy]; simp, n5⟩
                  · by_cases z : b = D₀
                    · rw [z]; exact ⟨_, upd_same, fun ps z => by cases z⟩
                    · obtain ⟨o, q, qn⟩ := p5.ex b hb
                      exact ⟨o, by rw [upd_ne z]; exact q, qn⟩
                  · exact ((E2.trans E35).grow hD d5).tab p1.tab
                  · refine (RVs.append (r2.keep E35.kp) (.cons ?_ .nil)).keep kg
                    cases rw' with
                    | d r => exact r
    · have e : i = ds.length := by omega
      rw [e, List.drop_length] at hl
      cases hl
      rw [List.append_nil] at hy
      subst hy
      refine .inl ⟨hY.2 (by omega), ?_⟩
      have ks : Keep (gOf X T) (D₀ :: x ++ m2) H2 (x ++ (m2 ++ [D₀])) H2 := keep_sub fun a ha => by
        rcases List.mem_append.mp ha with z | z
        · exact List.mem_append_left _ (List.mem_cons_of_mem _ z)
        · rcases List.mem_append.mp z with z | z
          · exact List.mem_append_right _ z
          · have : a = D₀ := by simpa using z
            rw [this]; exact List.mem_append_left _ List.mem_cons_self
      have E3 : Ext (gOf X T) m1 H1 (m2 ++ [D₀]) H2 := by
        refine ⟨E2.keep, E2.tups, E2.frzs, E2.owns, E2.live, ?_, E2.tab⟩
        obtain ⟨nw, e1, f1⟩ := E2.pre
        refine ⟨nw ++ [D₀], by rw [e1, List.append_assoc], fun b hb => ?_⟩
        rcases List.mem_append.mp hb with z | z
        · exact f1 b z
        · have : b = D₀ := by simpa using z
          rw [this]; exact fun ⟨u, q, _⟩ => by rw [hD] at q; cases q
      have R3 : RS (gOf X T) (x ++ (m2 ++ [D₀])) (m2 ++ [D₀]) H2 (Sf ++ [.lst ys]) := by
        have q := p2.sto.keep ks (fun b hb => List.mem_append_right _ (List.mem_append_left _ hb)) (fun _ _ => rfl) fun _ _ q => q
        refine ⟨by simp [q.len], List.nodup_append.mpr ⟨q.nd, by simp, fun a ha b hb z => ?_⟩, fun b hb => List.mem_append_right _ hb, fun i a c h1 h2 => ?_⟩
        · have : b = D₀ := by simpa using hb
          rw [z, this] at ha
          exact nD ha
        · by_cases hi : i < m2.length
          · rw [List.getElem?_append_left hi] at h1
            rw [List.getElem?_append_left (by rw [← q.len]; exact hi)] at h2
            exact q.at' i a c h1 h2
          · have e1 : i = m2.length := by
              have := (List.getElem?_eq_some_iff.mp h1).1
              simp at this
              omega
            subst e1
            rw [List.getElem?_append_right (Nat.le_refl _), Nat.sub_self] at h1
            rw [q.len, List.getElem?_append_right (Nat.le_refl _), Nat.sub_self] at h2
            have e2 : D₀ = a := Option.some.inj h1
            have e3 : Cell.lst ys = c := Option.some.inj h2
            subst e2 e3
            exact ⟨_, hd2, .lst (r2.keep ks)⟩
      exact h1 (m2 ++ [D₀]) H2 E3 R3 _ (.c (by rw [← p2.sto.len]; simp))
variable {elt tg iter : Expr} {ifs : List Expr} {scope : Scope} {own : List (Str × Nat)} {pos spos : Pos} {fi : MI} {t : MT} {f : ME}
theorem e_nlc (tgt : Tg) (own : List (Str × Nat)) (hc : X.calm = true) (hN : X.N.Nodup) (hi : PI X tg iter (tI (gOf X T) W fi)) (ok : BlkOk X.N X.env.scope scope own)
    (hg : ∀ (s : Shared) (H : Hp) (C : Addr) (cl : List (Str × Addr)) (fp : List Addr), PG (X.blk s H scope (compEnvC scope cl C X.env) fp) tg (gT X.K tgt))
    (ht : ∀ (s : Shared) (H : Hp) (C : Addr) (cl : List (Str × Addr)) (fp : List Addr), Takes (X.blk s H scope (compEnvC scope cl C X.env) fp) WF → PTs (X.blk s H scope (compEnvC scope cl C X.env) fp) ifs (tT (gOf (X.blk s H scope (compEnvC scope cl C X.env) fp) T) WF t))
    (he : ∀ (s : Shared) (H : Hp) (C : Addr) (cl : List (Str × Addr)) (fp : List Addr), Takes (X.blk s H scope (compEnvC scope cl C X.env) fp) WF → PE (X.blk s H scope (compEnvC scope cl C X.env) fp) elt (tE (gOf (X.blk s H scope (compEnvC scope cl C X.env) fp) T) WF f))
    (ho : ∀ i ∈ tgt.ix, i ∈ own.map (·.2)) (hs : ∀ x, foldedSetIterable iter X.env x = pure x := by intro _; rfl) : PE X (.ListComp elt [⟨tg, iter, ifs, 0⟩] scope pos) (tE (gOf X T) W (nlcM fi tgt t f (own.map (·.2)))) :=
  pe_mono (pe_lc hc hN hi ok hg (fun s H C cl fp => ht s H C cl fp takes0) (fun s H C cl fp => he s H C cl fp takes0) hs) fun σ H Q h => nlc_red ho h
theorem s_nlc (i : Nat) (tgt : Tg) (own : List (Str × Nat)) {y : Str} {py : Pos} (hc : X.calm = true) (hN : X.N.Nodup) (hi : PI X tg iter (tI (gOf X T) W fi)) (ok : BlkOk X.N X.env.scope scope own)
    (hg : ∀ (s : Shared) (H : Hp) (C : Addr) (cl : List (Str × Addr)) (fp : List Addr), PG (X.blk s H scope (compEnvC scope cl C X.env) fp) tg (gT X.K tgt))
    (ht : ∀ (s : Shared) (H : Hp) (C : Addr) (cl : List (Str × Addr)) (fp : List Addr), Takes (X.blk s H scope (compEnvC scope cl C X.env) fp) WF → PTs (X.blk s H scope (compEnvC scope cl C X.env) fp) ifs (tT (gOf (X.blk s H scope (compEnvC scope cl C X.env) fp) T) WF t))
    (he : ∀ (s : Shared) (H : Hp) (C : Addr) (cl : List (Str × Addr)) (fp : List Addr), Takes (X.blk s H scope (compEnvC scope cl C X.env) fp) WF → PE (X.blk s H scope (compEnvC scope cl C X.env) fp) elt (tE (gOf (X.blk s H scope (compEnvC scope cl C X.env) fp) T) WF f))
    (ho : ∀ i ∈ tgt.ix, i ∈ own.map (·.2)) (hsw : swapsWith (.ListComp elt [⟨tg, iter, ifs, 0⟩] scope pos) (some (.Name y py)) spos.line X.env = pure true) (hy : X.N[i]? = some y := by rfl) (hyl : X.env.scope.names.lookup y = some .local := by rfl) (hs : ∀ x, foldedSetIterable iter X.env x = pure x := by intro _; rfl) :
    PS X (.Assign [.Name y py] (.ListComp elt [⟨tg, iter, ifs, 0⟩] scope pos) spos) (tS (gOf X T) W (asgM (nlcM fi tgt t f (own.map (·.2))) (namG i))) :=
  ps_mono (ps_setLc hc hN hy hyl hsw hi ok hg (fun s H C cl fp => ht s H C cl fp takes0) (fun s H C cl fp => he s H C cl fp takes0) hs) fun Dn σ H h => by
    refine nlc_red (W := W) (f := f) (t := t) ho ?_
    obtain ⟨x, m, ρ, S, p, h⟩ := h
    refine ⟨x, m, ρ, S, p, (Post.toS h p).mono fun u S1 m1 H1 E1 R1 ⟨_, _, h1⟩ v rv => ?_⟩
    have p1 := p.ext E1 R1
    exact h1 m1 H1 _ Ext.refl ⟨p1.env.set rv i, p1.sto, p1.ex, p1.tab⟩
end
end Mir

/-! Mir18: try and its clauses. -/
namespace Mir
open PySem PySem.Spec PyProof.Rows L2 RZ
/-- is the class x one of y: by names -/
def slk : List (Str × Str × Bool) → Str → Str → Option Bool
  | [], _, _ => none
  | (a, b, r) :: t, x, y => if a = x ∧ b = y then some r else slk t x y
def XS (G : Gc) (tbl : List (Str × Str × Bool)) : Prop := ∀ p ∈ tbl, ∃ C D, G.mg p.1 = some (.ref C) ∧ G.mg p.2.1 = some (.ref D) ∧ PySem.W.exmOne G.K (.ref C) (.ref D) = some p.2.2
theorem slk_ok {G : Gc} : ∀ {tbl : List (Str × Str × Bool)} {x y : Str} {b : Bool}, XS G tbl → slk tbl x y = some b → ∃ C D, G.mg x = some (.ref C) ∧ G.mg y = some (.ref D) ∧ PySem.W.exmOne G.K (.ref C) (.ref D) = some b
  | [], _, _, _, _, h => by simp [slk] at h
  | (a, c, r) :: t, x, y, b, hx, h => by
    unfold slk at h
    split at h
    · rename_i e
      obtain ⟨rfl, rfl⟩ := e
      cases h
      exact hx _ List.mem_cons_self
    · exact slk_ok (fun p hp => hx p (List.mem_cons_of_mem _ hp)) h
def noX : SO → SO
  | .ex _ _ _ => .un
  | o => o
def hndM (tbl : List (Str × Str × Bool)) : List (Str × MS) → Exn → MS
  | [], e, ρ, S => .ex e ρ S
  | (y, g) :: r, e, ρ, S => match slk tbl e.cls y with
    | some true => noX (g ρ S)
    | some false => hndM tbl r e ρ S
    | none => .un
def tryM (tbl : List (Str × Str × Bool)) (f : MS) (hs : List (Str × MS)) : MS := fun ρ S => match f ρ S with
  | .ex e ρ' S' => hndM tbl hs e ρ' S'
  | o => o
section
variable {X : Cx} {T : List (Addr × Str)} {W : WX}
/-- the clauses and what stands for them -/
inductive MHds (X : Cx) (T : List (Addr × Str)) : List ExceptHandler → List (Str × MS) → List (Value × (Addr → Value → Option Addr → TS)) → Prop
  | nil : MHds X T [] [] []
  | cons {x : Str} {C : Addr} {g : MS} {b₀ : Stmt} {suite : List Stmt} {np pos' : Pos} {hds : List ExceptHandler} {hs : List (Str × MS)} {l : List (Value × (Addr → Value → Option Addr → TS))} (hm : X.mg x = some (.ref C)) (hg : Gl X x) (hd : (x == ("__debug__" : Str)) = false)
      (hsu : ∀ (a : Addr) (oe : Obj) (pn : List (Addr × Obj)), PSs (X.suite a ((a, oe) :: pn)) (b₀ :: suite) (tS (gOf (X.suite a ((a, oe) :: pn)) T) WF g)) (r : MHds X T hds hs l) :
      MHds X T (.ExceptHandler (some (.Name x np)) none (b₀ :: suite) pos' :: hds) ((x, g) :: hs) ((.ref C, fun _ _ _ => tS (gOf X T) WF g) :: l)
theorem MHds.hds {hds : List ExceptHandler} {hs : List (Str × MS)} {l : List (Value × (Addr → Value → Option Addr → TS))} (h : MHds X T hds hs l) : HdsOk X hds l := by
  induction h with
  | nil => exact .nil
  | cons hm hg hd hsu r ih => exact .cons ⟨hg, hd, .inl hm⟩ (fun a oe cls d pn _ _ => hsu a oe pn) ih
theorem noX_post {G : Gc} {x m : List Addr} {H : Hp} {o : SO} {Dn : Ends} (h : PostS G W x m H (noX o) Dn) : PostS G WF x m H o Dn := by
  cases o with
  | ex e ρ S => exact h.elim
  | nx _ _ => exact h
  | rt _ _ => exact h
  | bk _ _ => exact h
  | ct _ _ => exact h
  | un => exact h
theorem hnd_ok {tbl : List (Str × Str × Bool)} (xs : XS (gOf X T) tbl) {x m : List Addr} {H : Hp} {σ : St} {ρ : Env} {S : Sto} {e : Exn} {cls : Value} {d : Option Addr} {Dn : Ends} (p : Rp (gOf X T) x m H ρ S σ) (rx : RX (gOf X T) (x ++ m) H e cls d) :
    ∀ {hds : List ExceptHandler} {hs : List (Str × MS)} {l : List (Value × (Addr → Value → Option Addr → TS))}, MHds X T hds hs l → PostS (gOf X T) W x m H (hndM tbl hs e ρ S) Dn → wMany X.K W Dn l cls d σ H := by
  intro hds hs l hh
  induction hh with
  | nil => exact fun h => h m H σ cls d Ext.refl p rx
  | @cons y C g b₀ suite np pos' hds hs l hm hg hd hsu r ih =>
    intro h
    unfold hndM at h
    cases q : slk tbl e.cls y with
    | none => rw [q] at h; exact h.elim
    | some b =>
      rw [q] at h
      obtain ⟨C1, D1, h1, h2, h3⟩ := slk_ok xs q
      obtain ⟨C2, e1, e2, _⟩ := rx
      have e3 : C1 = C2 := by
        have := h1.symm.trans e2
        cases this; rfl
      have e4 : D1 = C := by
        have := h2.symm.trans hm
        cases this; rfl
      subst e3 e4
      refine ⟨b, by rw [e1]; exact h3, fun hb a _ => ?_, fun hb => ?_⟩
      · subst hb
        exact ⟨x, m, ρ, S, p, noX_post h⟩
      · subst hb
        exact ih h
theorem s_try {tbl : List (Str × Str × Bool)} {body : List Stmt} {f : MS} {hds : List ExceptHandler} {h₀ : ExceptHandler} {hs : List (Str × MS)} {l : List (Value × (Addr → Value → Option Addr → TS))} {pos : Pos} (xs : XS (gOf X T) tbl) (tk : Takes X W)
    (hb : ∀ (W' : WX) (pn : List (Addr × Obj)) (xe : Value → Shared → Prop), Takes (X.tr pn xe) W' → PassesOwn (model X.prog X.w) X.A X.env xe → PSs (X.tr pn xe) body (tS (gOf (X.tr pn xe) T) W' f))
    (hh : MHds X T (h₀ :: hds) hs l) (hs1 : X.stack = X.env :: X.outer := by rfl) (hf : X.env.frame = some X.env.locals := by rfl) : PS X (.Try body (h₀ :: hds) [] [] pos) (tS (gOf X T) W (tryM tbl f hs)) :=
  ps_mono (ps_try_many hs1 hf tk (tb := fun W' => tS (gOf X T) W' f) hb hh.hds) fun Dn σ H h => by
    obtain ⟨x, m, ρ, S, p, h⟩ := h
    refine ⟨x, m, ρ, S, p, ?_⟩
    unfold tryM at h
    cases q : f ρ S with
    | ex e ρ' S' =>
      rw [q] at h
      exact fun m' H' σ' cls d E p' rx => hnd_ok xs p' rx hh (PostS.shift E h)
    | nx _ _ => rw [q] at h; exact h
    | rt _ _ => rw [q] at h; exact h
    | bk _ _ => rw [q] at h; exact h
    | ct _ _ => rw [q] at h; exact h
    | un => rw [q] at h; exact h.elim
end
end Mir

/-! Mir19: a def that calls the lambda that it got, and tells how that ended. -/
namespace Mir
open PySem PySem.Spec PyProof.Rows L2 RZ LamX
def hsel (tbl : List (Str × Str × Bool)) : List (Str × Str) → Str → Option Str
  | [], _ => none
  | (y, r) :: t, x => match slk tbl x y with
    | some true => some r
    | some false => hsel tbl t x
    | none => none
def lamM (tbl : List (Str × Str × Bool)) (hs : List (Str × Str)) (fine : Str) (f : ME) : ME := fun ρ S => match f ρ S with
  | .ok _ S' => .ok (.d (.str fine)) S'
  | .ex e S' => match hsel tbl hs e.cls with
    | some r => .ok (.d (.str r)) S'
    | none => .un
  | .un => .un
def hval (K : PySem.W.Frag) : List (Value × Str) → Value → Hp → VK → Prop
  | [], _, _, _ => False
  | (c, r) :: t, cls, H, Q => ∃ b, PySem.W.exmOne K cls c = some b ∧ (b = true → Q (.str r) H) ∧ (b = false → hval K t cls H Q)
def TTw (K : PySem.W.Frag) (cs : List (Value × Str)) (fine : Str) : (XK → Hp → VK → Prop) → Hp → VK → Prop := fun tl H Q => tl (fun cls _ H' => hval K cs cls H' Q) H fun _ H' => Q (.str fine) H'
/-- the clauses of such a def -/
inductive WH (mg : Str → Option Value) (sg : Scope) : List ExceptHandler → List (Str × Str) → List (Value × Str) → Prop
  | nil : WH mg sg [] [] []
  | cons {e r : Str} {C : Addr} {np p5 p6 p7 : Pos} {j : Nat} {hds : List ExceptHandler} {hs : List (Str × Str)} {cs : List (Value × Str)} (hme : mg e = some (.ref C)) (hge : sg.names.lookup e = some .globalImplicit) (hde : (e == ("__debug__" : Str)) = false) (rest : WH mg sg hds hs cs) :
      WH mg sg (.ExceptHandler (some (.Name e np)) none [.Return (some (.Constant (.str r) j p5)) p6] p7 :: hds) ((e, r) :: hs) ((.ref C, r) :: cs)
section
variable {X : Cx}
def wl (cs : List (Value × Str)) : List (Value × (Addr → Value → Option Addr → TS)) := cs.map fun p => (p.1, fun _ _ _ D _ H => D.rt (.str p.2) H)
theorem WH.hds {Z : Cx} {sg : Scope} {hds : List ExceptHandler} {hs : List (Str × Str)} {cs : List (Value × Str)} (h : WH Z.mg sg hds hs cs) (hz : Z.env.scope = sg) (hgl : ∀ e, sg.names.lookup e = some .globalImplicit → Gl Z e) : HdsOk Z hds (wl cs) := by
  induction h with
  | nil => exact .nil
  | cons hme hge hde rest ih => exact .cons ⟨hgl _ hge, hde, .inl hme⟩ (fun a oe cls d pn _ _ => pss_one (ps_mono (ps_ret pe_str) fun Dn σ H h => h)) ih
theorem hval_many {K : PySem.W.Frag} {W : WX} {D : Ends} {cls : Value} {d : Option Addr} {σ : L2.St} {H : Hp} : ∀ {cs : List (Value × Str)}, hval K cs cls H D.rt → wMany K W D (wl cs) cls d σ H
  | [], h => h.elim
  | (c, r) :: t, ⟨b, h1, h2, h3⟩ => ⟨b, h1, fun hb a _ => h2 hb, fun hb => hval_many (h3 hb)⟩
theorem word_gives {Ng : List Str} {x a q fine : Str} {sg : Scope} {g : Addr} {cdg : Value} {h₀ : ExceptHandler} {hds : List ExceptHandler} {hs : List (Str × Str)} {cs : List (Value × Str)} {j : Nat} {p1 p2 p3 p4 p5 p8 : Pos} (hw : WH X.mg sg (h₀ :: hds) hs cs) (h0 : ∀ f : Addr, (L2.start Ng [V.ref f])[0]? = some (some (V.ref f))) :
    GivesTo X Ng x sg g cdg [.Try [.Expr (.Call (.Name a p1) [] [] p2) p3] (h₀ :: hds) [] [] p8, .Return (some (.Constant (.str fine) j p4)) p5] a q (TTw X.K cs fine) := by
  intro f c' s H Q tl act hc h
  refine ⟨_, pss_cons (ps_try_many (X := (cxOf C8.CX0 X.prog X.w X.K X.mg X.base Ng x sg g cdg X.A X.stack s H C8.E0).nox) (l := wl cs)
      (tb := fun W D σ H => ∃ Ech : XK, (∀ cls d σ' H', Ech cls d H' → W cls d σ' H') ∧ σ[0]? = some (some (.ref f)) ∧ H c' = some (CodeO c' q) ∧ tl Ech H fun _ H' => D.nx σ H')
      rfl rfl L2.takes0 (fun W pn xe tk _ => ?_) (hw.hds (Z := (cxOf C8.CX0 X.prog X.w X.K X.mg X.base Ng x sg g cdg X.A X.stack s H C8.E0).nox) rfl fun e he => he)) (pss_one (ps_ret pe_str)), ?_⟩
  · refine ⟨fun pins s' σ H' D I h' => ?_⟩
    obtain ⟨Ech, hW, h1, h2, h3⟩ := h'
    have hp := act W pn xe Ech p1 p2 tk hW
    have hq := pss_one (ps_expr (pos := p3) hp rfl)
    exact hq.run pins s' σ H' D I ⟨h1, h2, h3⟩
  · exact ⟨fun cls _ H' => hval X.K cs cls H' Q, fun cls d σ' H' h => hval_many h, h0 f, hc, h⟩
end
/-- such a def, by its name -/
structure Wd (G : Gc) (x : Str) (hs : List (Str × Str)) (fine : Str) : Prop where
  ex : ∃ (st : Stmt) (g : Addr) (fd : FuncData) (a : Str) (Ng : List Str) (h₀ : ExceptHandler) (hds : List ExceptHandler) (cs : List (Value × Str)) (j : Nat) (p1 p2 p3 p4 p5 p8 : Pos), Fun G.K x x st g fd ∧ G.mg x = some (.ref g) ∧ Binds G.K fd [a] [] ∧ FnScope Ng [a] (defScope st) ∧ Ng[0]? = some a ∧ Vis (defScope st) a ∧
    (a == ("__debug__" : Str)) = false ∧ (a == ("__classdict__" : Str)) = false ∧ (x == ("__debug__" : Str)) = false ∧ (∀ f : Addr, (L2.start Ng [V.ref f])[0]? = some (some (V.ref f))) ∧
    defBody st = [.Try [.Expr (.Call (.Name a p1) [] [] p2) p3] (h₀ :: hds) [] [] p8, .Return (some (.Constant (.str fine) j p4)) p5] ∧ WH G.mg (defScope st) (h₀ :: hds) hs cs
theorem hsel_ok {G : Gc} {tbl : List (Str × Str × Bool)} (xs : XS G tbl) {sg : Scope} {y r : Str} {C : Addr} {H : Hp} {Q : VK} (hy : G.mg y = some (.ref C)) (q : Q (.str r) H) : ∀ {hds : List ExceptHandler} {hs : List (Str × Str)} {cs : List (Value × Str)}, WH G.mg sg hds hs cs → hsel tbl hs y = some r → hval G.K cs (.ref C) H Q := by
  intro hds hs cs h
  induction h with
  | nil => intro z; simp [hsel] at z
  | @cons e r' D np p5 p6 p7 j hds hs cs hme hge hde rest ih =>
    intro z
    unfold hsel at z
    cases w : slk tbl y e with
    | none => rw [w] at z; cases z
    | some b =>
      rw [w] at z
      obtain ⟨C1, D1, h1, h2, h3⟩ := slk_ok xs w
      have e3 : C1 = C := by
        have := h1.symm.trans hy
        cases this; rfl
      have e4 : D1 = D := by
        have := h2.symm.trans hme
        cases this; rfl
      subst e3 e4
      refine ⟨b, h3, fun hb => ?_, fun hb => ?_⟩
      · subst hb
        cases z
        exact q
      · subst hb
        exact ih z
theorem Ext.ofN {G : Gc} {m : List Addr} {H H1 : Hp} (e : ExtN H H1) (t : Tabs G.T H1) : Ext G m H m H1 :=
  ⟨fun b o h _ n => e b o h n, fun b xs h => e b _ h (fun ps z => by cases z), fun b o u h => e b _ h (fun ps z => by cases z), fun b a h => e b _ h (fun ps z => by cases z), fun b ⟨o, h, n⟩ => ⟨o, e b o h n, n⟩, ⟨[], by simp, fun _ z => by cases z⟩, fun _ => t⟩
section
variable {X : Cx} {T : List (Addr × Str)} {W : WX}
theorem e_lam {x fine : Str} {hs : List (Str × Str)} {tbl : List (Str × Str × Bool)} {c P : Addr} {k : Nat} {params : Arguments} {body : Expr} {scope : Scope} {f : ME} {p lpos pos : Pos} (wd : Wd (gOf X T) x hs fine) (xs : XS (gOf X T) tbl)
    (TB : TabB X.base X.mg c P) (hcode : X.env.code = .ref c) (hmT : (P, X.env.qual ++ "<lambda>") ∈ T) (hu : ∀ p ∈ T, p.1 = P → p.2 = X.env.qual ++ "<lambda>") (hr : Room (k + 2) X.A)
    (hbody : ∀ (A : Around) (outer : List PySem.Env) (s : Shared) (H : Hp) (E : XK) (g c' : Addr), Room k (lamCx X A outer s H E scope g c').A → (lamCx X A outer s H E scope g c').A.units + 65 < cLine → Takes (lamCx X A outer s H E scope g c') (fun cls d _ H => E cls d H) →
      PE (lamCx X A outer s H E scope g c') body (tE (gOf (lamCx X A outer s H E scope g c') T) (fun cls d _ H => E cls d H) f))
    (L : LamS X.env.scope scope := by exact lamS_by (by decide +kernel)) (hg : Gl X x := by rfl) (hdef : defaultsOf params X.env = ([], []) := by rfl)
    (hbind : ∀ (q : Str) (cl : List (Str × Addr)) (pm cv ctv : Value), bindArgs (PySem.W.kla_fn "<lambda>" q params body scope cl pm cv ctv) ⟨[], []⟩ = pure [] := by intros; rfl) :
    PE X (.Call (.Name x p) [.Lambda params body scope lpos] [] pos) (tE (gOf X T) W (lamM tbl hs fine f)) := by
  obtain ⟨st, g, fd, a, Ng, h₀, hds, cs, j, p1, p2, p3, p4, p5, p8, F, gm, gb, gs, g0, gv, gd, gcd, gx, gst, gbody, gw⟩ := wd.ex
  obtain ⟨⟨oc, od, kV, doc, pm, an, cdv, ct, osl, rfl, lk, hcg⟩, hk⟩ := F
  refine pe_mono (pe_lamcall (k := k) hg gm hk lk hcg gb gs g0 gv (by rw [gbody]; exact word_gives gw gst) TB hcode hmT hu hr L hdef hbind (t := fun E => tE (gOf X T) (fun cls d _ H => E cls d H) f) (fun A outer s H E g' c' hr' => hbody A outer s H E g' c' hr' ?_ (takes_of rfl rfl rfl rfl)) gx gd gcd) fun σ H Q h => ?_
  · exact Nat.lt_of_le_of_lt (Nat.add_le_add_left (show 65 ≤ 16 * k + 200 by omega) _) (by rw [← Nat.add_assoc]; exact hr'.un)
  · obtain ⟨y, m, ρ, S, p, h⟩ := h
    refine ⟨p.tab, fun H1 eN T1 => ?_⟩
    have E1 : Ext (gOf X T) m H m H1 := Ext.ofN eN T1
    have R1 : RS (gOf X T) (y ++ m) m H1 S := p.sto.stay E1 fun a ha => by
      obtain ⟨o, h1, h2⟩ := p.sto.nt ha
      rw [h1]; exact eN a o h1 h2
    refine ⟨y, m, ρ, S, p.ext E1 R1, ?_⟩
    unfold lamM at h
    cases q : f ρ S with
    | ok u S' =>
      rw [q] at h
      exact fun m' H' E2 R2 v rv => h m' H' (E1.trans E2) R2 _ (.d (.str fine))
    | ex e S' =>
      rw [q] at h
      dsimp only at h
      cases hq : hsel tbl hs e.cls with
      | none => rw [hq] at h; exact h.elim
      | some r =>
        rw [hq] at h
        intro m' H' cls d E2 R2 rx
        obtain ⟨C, e1, e2, _⟩ := rx
        rw [e1]
        exact hsel_ok xs e2 (h m' H' (E1.trans E2) R2 _ (.d (.str r))) gw hq
    | un => rw [q] at h; exact h.elim
end
/-! ### a def with lambdas in it: its code object is known -/
/-- the code object and its table -/
structure Lc (base : Heap) (mg : Str → Option Value) (T : List (Addr × Str)) (c P : Addr) (q : Str) : Prop where
  tb : TabB base mg c P
  mem : (P, q) ∈ T
  one : ∀ p ∈ T, p.1 = P → p.2 = q
section
variable {P : Program} {w : World} {K : PySem.W.Frag} {mg : Str → Option Value} {base : Heap} {T : List (Addr × Str)} {x qual : Str} {st : Stmt} {f : Addr} {N ps : List Str} {k : Nat} {b : MS}
abbrev DerC (P : Program) (w : World) (K : PySem.W.Frag) (mg : Str → Option Value) (base : Heap) (T : List (Addr × Str)) (N : List Str) (qual : Str) (st : Stmt) (f : Addr) (k : Nat) (cdv : Value) (b : MS) : Prop :=
  ∀ (A : Around) (outer : List PySem.Env) (s : Shared) (H : Hp) (E : XK), Room k (bodyX P w K mg base N qual st f cdv A outer s H E).A → (bodyX P w K mg base N qual st f cdv A outer s H E).A.units + 65 < cLine →
    Takes (bodyX P w K mg base N qual st f cdv A outer s H E) (fun cls d _ H => E cls d H) → PassesOwn (model (bodyX P w K mg base N qual st f cdv A outer s H E).prog (bodyX P w K mg base N qual st f cdv A outer s H E).w) (bodyX P w K mg base N qual st f cdv A outer s H E).A (bodyX P w K mg base N qual st f cdv A outer s H E).env (bodyX P w K mg base N qual st f cdv A outer s H E).xe →
    PSs (bodyX P w K mg base N qual st f cdv A outer s H E) (defBody st) (tS (gOf (bodyX P w K mg base N qual st f cdv A outer s H E) T) (fun cls d _ H => E cls d H) b)
theorem obC {oc cdv kV doc pm ct : Value} {od an : Option Addr} {osl : Array (Option Value)} (lk : K.lookup f = some ⟨oc, od, .func (PySem.W.fnOf x qual (defArgs st) (defBody st) (defScope st) .none kV doc pm an cdv ct), osl⟩) (hcd : PySem.W.codeIn K cdv qual = true) (S : FnScope N ps (defScope st)) (D' : DerC P w K mg base T N qual st f k cdv b) :
    OBt P w K mg base T N f (PySem.W.fnOf x qual (defArgs st) (defBody st) (defScope st) .none kV doc pm an cdv ct) k ps b := fun sp hl h =>
  fn_of lk hcd S hl fun A outer s H vs Q E hr hsp =>
    ⟨_, D' A outer s H E hr (Nat.lt_of_le_of_lt (Nat.add_le_add_left (show 65 ≤ 16 * k + 200 by omega) _) (by rw [← Nat.add_assoc]; exact hr.un)) (takes_of rfl rfl rfl rfl) (passes_of rfl), h vs H Q E hsp⟩
end
/-! ### the law's end, with tables -/
theorem walk_mir {l : PySem.W.OpenLaw} {n k : Nat} {q : Program} {loose : List Str} {XP : (Str → Option Value) → Heap → Prop} {YP : World → Heap → Prop} {d : PySem.DefRec} {K : Params → PySem.W.Frag} {CX : World → CXT} {x : Str}
    (hn : l.most = some n) (hn2 : n ≤ sizeLine) (hdf : d.params.defaults = []) (hr : Room k callerA) (hY : ∀ (w : World) (h : Heap), YP w h → (K w.params).In h)
    (F : ∀ (w : World) (mg : Str → Option Value) (fa : Addr) (h : Heap), (K w.params).In h → h.Ns mainGlobals mg → mg d.name = some (.ref fa) → (∃ loose mean mb, PyProof.Rows.Top q loose mean mg mb h) → LawAtS l w (K w.params) (CX w) k n x mg fa h)
    (hCX : ∀ (w : World) (H : Hp) (s : Shared) (e : Value) (s' : Shared), CX w [] H s (fun _ _ _ => False) e s' → False) :
    PySem.W.WalkO q loose XP YP l.row.toRowW d [] (fun f vs => PySem.call f vs) :=
  Att.attach_callB hn hdf fun w s₀ s₁ mg mb fa o pm cd doc a vs ns G Y ho hd hcd hmg hobj hints hlen hbits hg => by
    have KX := hY w _ Y
    obtain ⟨fd, cs, sp, hT, nT, C, hb, hsp, hF⟩ := F w mg fa _ KX G.T.g hmg ⟨_, _, _, G.T⟩
    exact law_callTs KX G.T.g G.T.b G.T.builtins G.T.nolimit hg hT nT C G.T.bmain hobj hints (Nat.le_trans hlen hn2) hr hF hb (fun H hH hS => hsp H a ns hlen hbits hH hS) fun H e s' => hCX w H s₁ e s'
/-- what is promised of law: tables at T's addresses, a script, then True -/
def spLawT (K : PySem.W.Frag) (T : List (Addr × Str)) : Sp := fun vs H Q _ => ∃ (a : Addr) (ns : List Int), vs = [.ref a] ∧ ns.length ≤ 63 ∧ SqL K H a (ns.map V.int) ∧ (∀ p ∈ T, H p.1 = some (.tbl #[])) ∧ ∀ H', Q (.bl true) H'
theorem law_impT {P : Program} {w : World} {K : PySem.W.Frag} {mg : Str → Option Value} {base : Heap} {k : Nat} {f : Addr} {fd : FuncData} {F : List D → R} {T : List (Addr × Str)} (h : FnOk P w K mg base (L2.CX P w) k f fd ["script"] (sp0 ⟨P, w, K, mg, T⟩ 1 F))
    (hF : ∀ ns : List Int, ns.length ≤ 63 → F [.scr ns] = .ok (.bl true) ∧ F [.lst (ns.map D.int)] = .ok (.bl true)) : FnOk P w K mg base (L2.CX P w) k f fd ["script"] (spLawT K T) := h.imp fun vs H Q E ⟨a, ns, e, hl, hS, hT, hQ⟩ => by
  subst e
  have tb : Tabs T H := fun p hp => TabS.nil (hT p hp)
  have fin : ∀ d : D, RV ⟨P, w, K, mg, T⟩ [] H d (.ref a) → F [d] = .ok (.bl true) → sp0 ⟨P, w, K, mg, T⟩ 1 F [.ref a] H Q E := fun d rd hd => by
    refine ⟨rfl, [], [d], fun _ z => (by cases z), tb, .cons rd .nil, ?_⟩
    rw [hd]
    intro H' v _ r
    cases r
    exact hQ H'
  obtain ⟨h1, h2⟩ := hF ns hl
  rcases hS with (hS | hS) | hS
  · exact fin _ (.lst hS (fun z => by cases z) (rvs_ints ns)) h2
  · exact fin _ (.scr (.inl hS)) h1
  · exact fin _ (.scr (.inr hS)) h1
end Mir

/-! Mir20: calls without arguments; calls that look at cells; written dicts; dict(pairs). -/
namespace Mir
open PySem PySem.Spec PyProof.Rows L2 RZ
/-! ### f() -/
def callM0 (F : List D → R) : ME := fun _ S => match F [] with
  | .ok d => .ok (.d d) S
  | _ => .un
/-! ### a call that only looks at cells; its answer is no list, no dict -/
mutual
def flatD : D → Bool
  | .non => true
  | .bl _ => true
  | .int _ => true
  | .str _ => true
  | .tup xs => flatDs xs
  | .lst _ => false
  | .dic _ _ _ => false
  | .scr _ => false
  | .obj _ _ => false
def flatDs : List D → Bool
  | [] => true
  | x :: xs => flatD x && flatDs xs
end
def callV (F : List D → R) (fs : List ME) : ME := fun ρ S => (argsM fs ρ S).bind fun us S1 => match rds S1 us with
  | some ds => match F ds with
    | .ok d => if flatD d = true then .ok (.d d) S1 else .un
    | .ex e => if e.fs.isNone = true then .ex e S1 else .un
    | .un => .un
  | none => .un
section
variable {G : Gc} {e e' : List Addr} {H : Hp}
mutual
theorem RV.flat : ∀ {d : D} {v : V}, RV G e H d v → flatD d = true → RV G e' H d v
  | _, _, .non, _ => .non
  | _, _, .bl b, _ => .bl b
  | _, _, .int i, _ => .int i
  | _, _, .str x, _ => .str x
  | _, _, .tup h r, q => .tup h (RVs.flats r (by simpa [flatD] using q))
  | _, _, .lst _ _ _, q => by simp [flatD] at q
  | _, _, .scr _, q => by simp [flatD] at q
  | _, _, .obj _ _, q => by simp [flatD] at q
  | _, _, .dic _ _ _ _, q => by simp [flatD] at q
theorem RVs.flats : ∀ {ds : List D} {vs : List V}, RVs G e H ds vs → flatDs ds = true → RVs G e' H ds vs
  | _, _, .nil, _ => .nil
  | _, _, .cons r t, q => by
    have h := Bool.and_eq_true_iff.mp (show (flatD _ && flatDs _) = true from q)
    exact .cons (RV.flat r h.1) (RVs.flats t h.2)
end
/-- what is read off cells, where cells are looked at as data: apart from nothing -/
theorem RT.un {d : D} {v : V} (r : RT G e H d v) : RV G [] H d v := by
  have k : Keep G e H [] H := keep_sub fun a z => by cases z
  cases r with
  | of r => exact r.keep k
  | lst h r => exact .lst h (fun z => by cases z) (r.keep k)
  | dic h q r => exact .dic h (fun z => by cases z) q (r.keep k)
theorem RTs.un : ∀ {ds : List D} {vs : List V}, RTs G e H ds vs → RVs G [] H ds vs
  | _, _, .nil => .nil
  | _, _, .cons r t => .cons r.un (RTs.un t)
end
section
variable {X : Cx} {T : List (Addr × Str)} {W : WX} {k n : Nat} {x : Str} {e : Expr} {es : List Expr} {fs : List ME} {pos px : Pos}
theorem e_call0 {F : List D → R} (h : Kn (gOf X T) X.base k x (sp0 (gOf X T) 0 F)) (hr : Room k X.A) (tk : Takes X W) (hg : Gl X x := by rfl) (hdb : (x == ("__debug__" : Str)) = false := by decide) : PE X (.Call (.Name x px) [] [] pos) (tE (gOf X T) W (callM0 F)) := by
  obtain ⟨f, fd, ps, h1, h2, h3, h4⟩ := h.ex
  refine pe_mono (pe_call0 (E := fun _ _ _ => False) h1 hr hg h2 h3 h4 .nil (passes_call tk fun _ _ _ _ z => z.elim) hdb) fun σ H Q h => ?_
  obtain ⟨y, m, ρ, S, q, h⟩ := h
  refine ⟨rfl, y ++ m, [], q.trkN, q.tab, .nil, ?_⟩
  unfold callM0 at h
  unfold PR
  split at h
  · rename_i d hd
    rw [hd]
    exact fun H' v E2 rv => h m H' E2.of_nil (q.sto.stay0 E2) v (.d rv)
  · exact h.elim
theorem e_callV {F : List D → R} (h : Kn (gOf X T) X.base k x (sp0 (gOf X T) n F)) (hr : Room k X.A) (tk : Takes X W) (hn : Nat.beq fs.length n = true := by rfl) (ha : PA X (e :: es) (tA (gOf X T) W (argsM fs))) (hg : Gl X x := by rfl)
    (hdb : (x == ("__debug__" : Str)) = false := by decide) (he : starEach (e :: es) X.env = (false, eval e X.env) :: starEach es X.env := by rfl) (hpl : (backTo pos (starEach es X.env)).any (·.1) = false := by rfl) :
    PE X (.Call (.Name x px) (e :: es) [] pos) (tE (gOf X T) W (callV F fs)) := by
  obtain ⟨f, fd, ps, h1, h2, h3, h4⟩ := h.ex
  refine pe_mono (pe_callS h1 hr hg h2 h3 h4 (fun σ => passAt tk σ) ha hdb he hpl) fun σ H Q h => ?_
  obtain ⟨y, m, ρ, S, q, h⟩ := h
  cases q1 : argsM fs ρ S with
  | un => simp only [callV, q1, O.bind] at h; exact h.elim
  | ex ee S' =>
    refine ⟨y, m, ρ, S, q, ?_⟩
    simp only [callV, q1, O.bind] at h ⊢
    exact h
  | ok us S' =>
    refine ⟨y, m, ρ, S, q, ?_⟩
    rw [q1]
    intro m1 H1 E1 R1 vs rvs
    have p1 := q.ext E1 R1
    simp only [callV, q1, O.bind] at h
    refine ⟨by rw [← RUs.length rvs, argsM_len q1]; exact Nat.eq_of_beq_eq_true hn, ?_⟩
    split at h
    · rename_i ds hds
      refine ⟨[], ds, fun _ z => (by cases z), p1.tab, (RUs.rts R1 rvs hds).un, ?_⟩
      unfold PR
      split
      · rename_i d hd
        rw [hd] at h
        dsimp only at h
        split at h
        · rename_i hf
          exact fun H' v E2 rv => h m1 H' (E1.trans E2.of_nil) (R1.stay0 E2) v (.d (rv.flat hf))
        · exact h.elim
      · rename_i ee hd
        rw [hd] at h
        dsimp only at h
        split at h
        · rename_i hf
          refine fun H' cls d E2 rx => h m1 H' cls d (E1.trans E2.of_nil) (R1.stay0 E2) ?_
          obtain ⟨C, c1, c2, c3⟩ := rx
          refine ⟨C, c1, c2, ?_⟩
          have en : ee.fs = none := by simpa using hf
          rw [en]
          trivial
        · exact h.elim
      · rename_i hd
        rw [hd] at h
        exact h
    · exact h.elim

/-! ### {k: v, ..} with written texts as keys -/
def dicM (ks : List Str) (fs : List ME) : ME := fun ρ S => match argsM fs ρ S with
  | .ok us S' => match pures us with
    | some ds => .ok (.d (.dic false (ks.map .text) ds)) S'
    | none => .un
  | _ => .un
def trsOf (G : Gc) (W : WX) : List Str → List ME → List (TE × TE)
  | k :: ks, f :: fs => (tC (.str k), tE G W f) :: trsOf G W ks fs
  | _, _ => []
abbrev MPs (X : Cx) (T : List (Addr × Str)) (W : WX) (pos : Pos) (keys : List (Option Expr)) (values : List Expr) (ks : List Str) (fs : List ME) : Prop := PPs X pos keys values (trsOf (gOf X T) W ks fs)
theorem q_nil : MPs X T W pos [] [] [] [] := pps_nil
theorem q_cons {k : Str} {j : Nat} {kp : Pos} {v : Expr} {f : ME} {keys : List (Option Expr)} {values : List Expr} {ks : List Str} {fs : List ME} (hv : PE X v (tE (gOf X T) W f)) (hr : MPs X T W pos keys values ks fs) : MPs X T W pos (some (.Constant (.str k) j kp) :: keys) (v :: values) (k :: ks) (f :: fs) := pps_cons pe_str hv hr
theorem disp_args {σ : St} {y : List Addr} {ρ : Env} : ∀ {fs : List ME} {ks : List Str} {m : List Addr} {H : Hp} {S : Sto} {Qp : List (V × V) → Hp → Prop}, ks.length = fs.length → Rp (gOf X T) y m H ρ S σ → Post (gOf X T) W y m σ H (argsM fs ρ S) (fun us _ m' H' => ∀ vs, RUs (gOf X T) (y ++ m') m' H' us vs → Qp ((ks.map V.str).zip vs) H') →
    tPairs (trsOf (gOf X T) W ks fs) σ H Qp
  | [], [], m, H, S, Qp, _, p, h => h m H Ext.refl p.sto [] .nil
  | f :: fs, k :: ks, m, H, S, Qp, hl, p, h => by
    refine ⟨y, m, ρ, S, p, (Post.bind h).mono fun u S1 m1 H1 E1 R1 ⟨_, _, h1⟩ v rv => ?_⟩
    have p1 := p.ext E1 R1
    exact disp_args (Qp := fun ps H' => Qp ((.str k, v) :: ps) H') (ks := ks) (by simpa using hl) p1 ((Post.bind h1).mono fun us S2 m2 H2 E2 R2 ⟨_, _, h3⟩ vs rvs => h3 m2 H2 Ext.refl R2 _ (.cons (rv.ext E2) rvs))
  | [], _ :: _, _, _, _, _, hl, _, _ => by simp at hl
  | _ :: _, [], _, _, _, _, hl, _, _ => by simp at hl
theorem putK_new {kvs : List (Key × V)} {k : Key} {v : V} (h : k ∉ kvs.map (·.1)) : putK kvs k v = kvs ++ [(k, v)] := by
  unfold putK
  rw [if_neg]
  intro z
  obtain ⟨p, hp, e⟩ := List.any_eq_true.mp z
  exact h (List.mem_map.mpr ⟨p, hp, of_decide_eq_true e⟩)
theorem mergeK_nodup : ∀ (more kvs : List (Key × V)), ((kvs ++ more).map (·.1)).Nodup → mergeK kvs more = kvs ++ more
  | [], kvs, _ => by simp [mergeK]
  | (k, v) :: more, kvs, h => by
    have h1 : k ∉ kvs.map (·.1) := fun z => by
      rw [List.map_append] at h
      exact (List.nodup_append.mp h).2.2 k z k (by simp) rfl
    show mergeK (putK kvs k v) more = _
    rw [putK_new h1, mergeK_nodup more (kvs ++ [(k, v)]) (by simpa using h)]
    simp
theorem Ext.growO {G : Gc} {m m' : List Addr} {H0 H' : Hp} {p : Addr} {o o' : HO} (E : Ext G m H0 m' H') (h0 : H0 p = none) (h : H' p = some o) (h1 : ∀ ps, o ≠ .tbl ps) (h2 : ∀ c q, p = c → o ≠ LamX.CodeO c q) (h3 : ∀ ps, o' ≠ .tbl ps) : Ext G m H0 m' (upd H' p o') := by
  have ne : ∀ {b : Addr} {u : HO}, H0 b = some u → b ≠ p := fun {b u} q z => by rw [z, h0] at q; cases q
  refine ⟨fun b u q n t => by rw [upd_ne (ne q)]; exact E.keep b u q n t, fun b xs q => by rw [upd_ne (ne q)]; exact E.tups b xs q, fun b u w q => by rw [upd_ne (ne q)]; exact E.frzs b u w q,
    fun b a q => by rw [upd_ne (ne q)]; exact E.owns b a q, fun b q => ?_, E.pre, fun t pp hp => ?_⟩
  · obtain ⟨u, q1, q2⟩ := E.live b q
    by_cases z : b = p
    · rw [z]; exact ⟨_, upd_same, h3⟩
    · exact ⟨u, by rw [upd_ne z]; exact q1, q2⟩
  · obtain ⟨ps, g1, g2, g3⟩ := E.tab t pp hp
    refine ⟨ps, by rw [upd_ne (fun z => h1 ps (by rw [z, h] at g1; exact Option.some.inj g1))]; exact g1, g2, fun pos cv hc => ?_⟩
    obtain ⟨c, g4, g5⟩ := g3 pos cv hc
    exact ⟨c, g4, by rw [upd_ne (fun z => h2 c pp.2 z.symm (by rw [z, h] at g5; rw [z]; exact Option.some.inj g5))]; exact g5⟩
theorem zip_keys : ∀ {ks : List Str} {vs : List V}, vs.length = ks.length → (ks.map V.str).zip vs = ((ks.map Sum.inr).zip vs).map (fun kv => ((kV kv.1 : V), kv.2)) ∧ (((ks.map Sum.inr : List Key).zip vs).map (·.1)) = ks.map Sum.inr
  | [], [], _ => ⟨rfl, rfl⟩
  | k :: ks, v :: vs, h => by
    obtain ⟨h1, h2⟩ := zip_keys (ks := ks) (vs := vs) (by simpa using h)
    exact ⟨by simp [h1, kV], by simp [h2]⟩
  | [], _ :: _, h => by simp at h
  | _ :: _, [], h => by simp at h
theorem e_dic {keys : List (Option Expr)} {values : List Expr} {ks : List Str} {fs : List ME} (h : MPs X T W pos keys values ks fs) (hk : ks.Nodup := by decide +kernel) (hl : ks.length = fs.length := by rfl) (h15 : Nat.ble ks.length 15 = true := by rfl)
    (hall : keys.all (·.isSome) = true := by rfl) (hlen : keys.length = values.length := by rfl) (h0 : keys ≠ [] := by simp) (hk15 : keys.length ≤ 15 := by decide) : PE X (.Dict keys values pos) (tE (gOf X T) W (dicM ks fs)) := pe_mono (pe_disp h hall hlen h0 hk15) fun σ H Q h => by
  obtain ⟨y, m, ρ, S, q, h⟩ := h
  intro p np
  have hide : Keep (gOf X T) (y ++ m) H (p :: (y ++ m)) (upd H p (.dK [])) := Keep.hide np
  have p0 : Rp (gOf X T) (p :: y) m (upd H p (.dK [])) ρ S σ := ⟨q.env.keep hide, q.sto.keep hide (fun b hb => List.mem_cons_of_mem _ (List.mem_append_right _ hb)) (fun a ha => by
      obtain ⟨u, z⟩ := q.sto.live ha
      rw [upd_ne (ne_of_none z np)]) (fun b c z => by rw [upd_ne (ne_of_none z np)]; exact z), fun b hb => by
        rcases List.mem_cons.mp hb with z | z
        · rw [z]; exact ⟨_, upd_same, fun ps z => by cases z⟩
        · obtain ⟨u, w, wn⟩ := q.ex b z
          exact ⟨u, by rw [upd_ne (ne_of_none w np)]; exact w, wn⟩, q.tab.ext fun b u z => by rw [upd_ne (ne_of_none z np)]; exact z⟩
  have nm : p ∉ m := fun z => by
    obtain ⟨u, w⟩ := q.sto.live z
    rw [np] at w; cases w
  have ny : p ∉ y := fun z => by
    obtain ⟨u, w, _⟩ := q.ex p z
    rw [np] at w; cases w
  have E0 : Ext (gOf X T) m H m (upd H p (.dK [])) := Ext.new np
  refine disp_args hl p0 ?_
  unfold dicM at h
  cases qa : argsM fs ρ S with
  | un => rw [qa] at h; exact h.elim
  | ex ee S' => rw [qa] at h; exact h.elim
  | ok us S' =>
    rw [qa] at h
    intro m1 H1 E1 R1 vs rvs
    dsimp only at h
    split at h
    · rename_i ds hd
      have hr := RUs.pure rvs hd
      have hv : vs.length = ks.length := by rw [← RUs.length rvs, argsM_len qa, hl]
      have hp1 : H1 p = some (.dK []) := E1.keep _ _ upd_same nm (fun ps z => by cases z)
      have nm1 : p ∉ m1 := fun z => by
        obtain ⟨nw, e1, f1⟩ := E1.pre
        rw [e1] at z
        rcases List.mem_append.mp z with z | z
        · exact nm z
        · exact f1 p z ⟨_, upd_same, fun ps z => by cases z⟩
      have nk : ((([] : List (Key × V)) ++ (ks.map Sum.inr : List Key).zip vs).map (·.1)).Nodup := by
        rw [List.nil_append, (zip_keys hv).2]
        exact List.Pairwise.map _ (fun a b hab z => hab (Sum.inr.inj z)) hk
      refine ⟨hp1, (ks.map Sum.inr).zip vs, (zip_keys hv).1, ?_, ?_⟩
      · rw [List.length_zip, List.length_map, hv, Nat.min_self]
        exact Nat.le_of_ble_eq_true h15
      · rw [mergeK_nodup _ _ nk, List.nil_append]
        have E2 : Ext (gOf X T) m H m1 (upd H1 p (.dK ((ks.map Sum.inr).zip vs))) := Ext.growO (E0.trans E1) np hp1 (fun ps z => by cases z) (fun c q z => dK_code) (fun ps z => by cases z)
        have kg : Keep (gOf X T) (p :: y ++ m1) H1 (p :: y ++ m1) (upd H1 p (.dK ((ks.map Sum.inr).zip vs))) := Keep.upd1 hp1 (fun _ z => by cases z) (fun _ _ z => by cases z) List.mem_cons_self
        have ks2 : Keep (gOf X T) (p :: y ++ m1) (upd H1 p (.dK ((ks.map Sum.inr).zip vs))) (y ++ m1) (upd H1 p (.dK ((ks.map Sum.inr).zip vs))) := keep_sub fun a ha => List.mem_cons_of_mem _ ha
        have R2 := (R1.keep kg (fun b hb => List.mem_append_right _ hb) (fun a ha => upd_ne fun z => nm1 (z ▸ ha)) (fun b c q => by
            rw [upd_ne (fun z => by rw [z, hp1] at q; cases q)]; exact q)).keep ks2 (fun b hb => List.mem_append_right _ hb) (fun _ _ => rfl) fun _ _ q => q
        refine h m1 _ E2 R2 _ (.d ?_)
        have rd := RD.k (G := gOf X T) (H := upd H1 p (.dK ((ks.map Sum.inr).zip vs))) (a := p) (ks.map Sum.inr) vs (by rw [List.length_map, hv])
        have ek : (ks.map (Sum.inr : Str → Key)).map kN = ks.map .text := by simp [kN, Function.comp_def]
        rw [ek] at rd
        refine .dic upd_same (fun z => ?_) rd ((hr.keep kg).keep ks2)
        rcases List.mem_append.mp z with z | z
        · exact ny z
        · exact nm1 z
    · exact h.elim
end
end Mir

/-! Mir21: comprehensions over two: the second over a tuple of the module. -/
namespace Mir
open PySem PySem.Spec PyProof.Rows L2 RZ
def lc2L (tg1 : Tg) (t1 : MT) (es : List D) (tg2 : Tg) (t2 : MT) (f : ME) (vs1 : List Nat) (ρ0 : Env) : List D → Sto → O (List D)
  | [], S => .ok [] S
  | d :: ds, S => match setT tg1 d ρ0 with
    | none => .un
    | some ρ => match t1 ρ S with
      | .ok true S1 => match lcL tg2 t2 f (wipeE ρ vs1) es S1 with
        | .ok ys S2 => match lc2L tg1 t1 es tg2 t2 f vs1 ρ0 ds S2 with
          | .ok zs S3 => .ok (ys ++ zs) S3
          | _ => .un
        | _ => .un
      | .ok false S1 => lc2L tg1 t1 es tg2 t2 f vs1 ρ0 ds S1
      | _ => .un
def lc2M (it : MI) (tg1 : Tg) (t1 : MT) (es : List D) (tg2 : Tg) (t2 : MT) (f : ME) (own vs1 : List Nat) : ME := fun ρ S => (it ρ S).bind fun ds S1 =>
  if ds.length ≤ 1000 ∧ es.length ≤ 1000 then match lc2L tg1 t1 es tg2 t2 f vs1 (wipeE ρ own) ds S1 with
    | .ok ys S2 => .ok (.d (.lst ys)) S2
    | _ => .un
  else .un
theorem lcL_len {tg : Tg} {t : MT} {f : ME} {ρ0 : Env} : ∀ {ds : List D} {S S' : Sto} {ys : List D}, lcL tg t f ρ0 ds S = .ok ys S' → ys.length ≤ ds.length
  | [], _, _, _, h => by simp [lcL] at h; simp [← h.1]
  | d :: ds, S, S', ys, h => by
    unfold lcL at h
    split at h
    · cases h
    · split at h
      · split at h
        · split at h
          · rename_i q
            cases h
            have := lcL_len q
            simp; omega
          · cases h
        · cases h
      · have := lcL_len h
        simp; omega
      · cases h
section
variable {X : Cx} {T : List (Addr × Str)} {W : WX}
/-- the second walk: over the tuple at a, wherever the heap stands -/
theorem lc_inner {es : List D} {tgt : Tg} {t : MT} {f : ME} {vs1 : List Nat} (ho : ∀ i ∈ tgt.ix, i ∈ vs1) {a D₀ : Addr} (hes : ∀ e H, RV (gOf X T) e H (.tup es) (.ref a)) {x m1 : List Addr} {H1 : Hp} (hD : H1 D₀ = none) (hT1 : LamX.Tabs T H1) {m : List Addr} {H : Hp} {ρ ρO : Env} {S Sf : Sto} {σ σO : L2.St} {acc ys : List D} {vacc : List V} {n0 : Nat} {Nx : Hp → Prop}
    (E : Ext (gOf X T) m1 H1 m H) (p : Rp (gOf X T) (D₀ :: x) m H ρ S σ) (oe : RE (gOf X T) (D₀ :: x ++ m) m H ρO σO) (hd : H D₀ = some (.lst vacc)) (r : RVs (gOf X T) (D₀ :: x ++ m) H acc vacc) (hn : vacc.length ≤ n0) (hsz : n0 + es.length < sizeLine) (nD : D₀ ∉ m)
    (hL : lcL tgt t f (wipeE ρ vs1) es S = .ok ys Sf)
    (fin : ∀ m' H' vacc', Ext (gOf X T) m1 H1 m' H' → RS (gOf X T) (D₀ :: x ++ m') m' H' Sf → (∀ b ∈ D₀ :: x, Nt H' b) → LamX.Tabs T H' → RE (gOf X T) (D₀ :: x ++ m') m' H' ρO σO → H' D₀ = some (.lst vacc') → RVs (gOf X T) (D₀ :: x ++ m') H' (acc ++ ys) vacc' → vacc'.length ≤ n0 + es.length → D₀ ∉ m' → Nx H') :
    ∃ W1 : Nat → Nat → Hp → Prop, (∃ k, W1 0 k H) ∧ ∀ j k H2, W1 j k H2 → ((Itt X.K a).stop j H2 ∧ Nx H2) ∨ ((Itt X.K a).go j H2 ∧ ∃ Nx1 : Hp → Prop, (∀ H', Nx1 H' → ∃ k', k' < k ∧ W1 (j + 1) k' H') ∧ ∀ v H3, (Itt X.K a).yld j H2 v H3 → gT X.K tgt v (L2.wipe σ vs1) H3 fun σ3 H5 => L2.wipe σ3 vs1 = L2.wipe σ vs1 ∧ tT (gOf X T) WF t σ3 H5 fun b H6 =>
      if b = true then tE (gOf X T) WF f σ3 H6 fun y H7 => ∃ acc, H7 D₀ = some (.lst acc) ∧ acc.length < sizeLine ∧ Nx1 (upd H7 D₀ (.lst (acc ++ [y]))) else Nx1 H6) := by
  refine ⟨fun i k H2 => ∃ m2 S2 acc2 vacc2 rest, k = es.length - i ∧ i ≤ es.length ∧ Ext (gOf X T) m1 H1 m2 H2 ∧ Rp (gOf X T) (D₀ :: x) m2 H2 (wipeE ρ vs1) S2 (L2.wipe σ vs1) ∧ RE (gOf X T) (D₀ :: x ++ m2) m2 H2 ρO σO ∧ H2 D₀ = some (.lst vacc2) ∧
      RVs (gOf X T) (D₀ :: x ++ m2) H2 acc2 vacc2 ∧ vacc2.length ≤ n0 + i ∧ lcL tgt t f (wipeE ρ vs1) (es.drop i) S2 = .ok rest Sf ∧ acc ++ ys = acc2 ++ rest ∧ D₀ ∉ m2,
    ⟨es.length, m, S, acc, vacc, ys, by simp, Nat.zero_le _, E, ⟨RE.wipeS vs1 p.env, p.sto, p.ex, p.tab⟩, oe, hd, r, by omega, by rw [List.drop_zero]; exact hL, rfl, nD⟩, ?_⟩
  rintro i k H2 ⟨m2, S2, acc2, vacc2, rest, rfl, hi, E2, p2, oe2, hd2, r2, hv, hl, hy, nD2⟩
  obtain ⟨xs, hq, hxs⟩ : ∃ xs, SqT X.K H2 a xs ∧ RVs (gOf X T) (D₀ :: x ++ m2) H2 es xs := by
    cases hes (D₀ :: x ++ m2) H2 with
    | tup h1 h2 => exact ⟨_, h1, h2⟩
  have hY := yl_tup (x := D₀ :: x) (m := m2) hq hxs (D₀ :: x) m2 H2 (fun b hb => .inl hb) Ext.refl p2.trk i
  by_cases hlt : i < es.length
  · obtain ⟨hgo, hyl⟩ := hY.1 es[i] (List.getElem?_eq_getElem hlt)
    rw [List.drop_eq_getElem_cons hlt] at hl
    simp only [lcL] at hl
    refine .inr ⟨hgo, fun H3 => ∃ m3 S3 acc3 vacc3 rest, Ext (gOf X T) m1 H1 m3 H3 ∧ Rp (gOf X T) (D₀ :: x) m3 H3 (wipeE ρ vs1) S3 (L2.wipe σ vs1) ∧ RE (gOf X T) (D₀ :: x ++ m3) m3 H3 ρO σO ∧ H3 D₀ = some (.lst vacc3) ∧
      RVs (gOf X T) (D₀ :: x ++ m3) H3 acc3 vacc3 ∧ vacc3.length ≤ n0 + (i + 1) ∧ lcL tgt t f (wipeE ρ vs1) (es.drop (i + 1)) S3 = .ok rest Sf ∧ acc ++ ys = acc3 ++ rest ∧ D₀ ∉ m3,
      fun H3 ⟨m3, S3, acc3, vacc3, rest, a1, a2, a3, a4, a5, a6, a7, a8, a9⟩ => ⟨es.length - (i + 1), by omega, m3, S3, acc3, vacc3, rest, rfl, hlt, a1, a2, a3, a4, a5, a6, a7, a8, a9⟩, fun v H3 yv => ?_⟩
    obtain ⟨E3, k3, r3⟩ := hyl v H3 yv
    have R3 : RS (gOf X T) (D₀ :: x ++ m2) m2 H3 S2 := p2.sto.stay E3 fun a ha => k3 a ha (by obtain ⟨o, q⟩ := p2.sto.live ha; rw [q]; simp)
    have p3 := p2.ext E3 R3
    cases hs : setT tgt es[i] (wipeE ρ vs1) with
    | none => rw [hs] at hl; cases hl
    | some ρ' =>
      rw [hs] at hl
      dsimp only at hl
      refine tg_ok r3 p3.env hs ho fun σ' re' hw => ⟨by rw [hw, wipe_idem], ?_⟩
      have q3 : Rp (gOf X T) (D₀ :: x) m2 H3 ρ' S2 σ' := ⟨re', R3, p3.ex, p3.tab⟩
      have nD' : ∀ {m m' : List Addr} {H H' : Hp}, Ext (gOf X T) m H m' H' → D₀ ∉ m → Nt H D₀ → D₀ ∉ m' := fun E n q z => by
        obtain ⟨nw, e1, f1⟩ := E.pre
        rw [e1] at z
        rcases List.mem_append.mp z with z | z
        · exact n z
        · exact f1 _ z q
      have d3 : H3 D₀ = some (.lst vacc2) := E3.keep _ _ hd2 nD2 (fun ps z => by cases z)
      refine ⟨D₀ :: x, m2, ρ', S2, q3, ?_⟩
      cases ht : t ρ' S2 with
      | un => rw [ht] at hl; cases hl
      | ex ee S' => rw [ht] at hl; cases hl
      | ok b S3 =>
        rw [ht] at hl
        intro m4 H4 E4 R4
        have q4 := q3.ext E4 R4
        have d4 : H4 D₀ = some (.lst vacc2) := E4.keep _ _ d3 nD2 (fun ps z => by cases z)
        have n4 := nD' E4 nD2 ⟨_, d3, fun ps z => by cases z⟩
        cases b with
        | false =>
          exact iteF ⟨m4, S3, acc2, vacc2, rest, (E2.trans E3).trans E4, ⟨(p3.ext E4 R4).env, R4, (p3.ext E4 R4).ex, (p3.ext E4 R4).tab⟩, oe2.ext (x := D₀ :: x) (E3.trans E4), d4, r2.keep ((E3.trans E4).kp), by omega, hl, hy, n4⟩
        | true =>
          refine iteT ⟨D₀ :: x, m4, ρ', S3, q4, ?_⟩
          dsimp only at hl
          cases hf : f ρ' S3 with
          | un => rw [hf] at hl; cases hl
          | ex ee S' => rw [hf] at hl; cases hl
          | ok u S4 =>
            rw [hf] at hl
            cases u with
            | c j => cases hl
            | t j => cases hl
            | d y =>
              dsimp only at hl
              cases hr : lcL tgt t f (wipeE ρ vs1) (es.drop (i + 1)) S4 with
              | un => rw [hr] at hl; cases hl
              | ex ee S' => rw [hr] at hl; cases hl
              | ok rest' S5 =>
                rw [hr] at hl
                cases hl
                intro m5 H5 E5 R5 w rw'
                have d5 : H5 D₀ = some (.lst vacc2) := E5.keep _ _ d4 n4 (fun ps z => by cases z)
                have n5 := nD' E5 n4 ⟨_, d4, fun ps z => by cases z⟩
                have E35 := (E3.trans E4).trans E5
                have p5 := p2.ext E35 R5
                have oe5 := oe2.ext (x := D₀ :: x) E35
                have kg : Keep (gOf X T) (D₀ :: x ++ m5) H5 (D₀ :: x ++ m5) (upd H5 D₀ (.lst (vacc2 ++ [w]))) := Keep.grow d5 List.mem_cons_self
                refine ⟨vacc2, d5, by omega, m5, S4, acc2 ++ [y], vacc2 ++ [w], rest', (E2.trans E35).grow hD d5, ⟨p5.env.keep kg, R5.keep kg (fun b hb => List.mem_append_right _ hb) (fun a ha => upd_ne fun z => n5 (z ▸ ha)) (fun b y q => by
                    rw [upd_ne (fun z => by rw [z, d5] at q; cases q)]; exact q), fun b hb => ?_, ?_⟩, oe5.keep kg, upd_same, ?_, by simp; omega, hr, by rw [hy]; simp, n5⟩
                · by_cases z : b = D₀
                  · rw [z]; exact ⟨_, upd_same, fun ps z => by cases z⟩
                  · obtain ⟨o, q, qn⟩ := p5.ex b hb
                    exact ⟨o, by rw [upd_ne z]; exact q, qn⟩
                · exact ((E2.trans E35).grow hD d5).tab hT1
                · refine (RVs.append (r2.keep E35.kp) (.cons ?_ .nil)).keep kg
                  cases rw' with
                  | d r => exact r
  · have e : i = es.length := by omega
    rw [e, List.drop_length] at hl
    cases hl
    rw [List.append_nil] at hy
    refine .inl ⟨hY.2 (by omega), fin m2 H2 vacc2 E2 p2.sto p2.ex p2.tab oe2 hd2 (by rw [hy]; exact r2) (by omega) nD2⟩
theorem lc2_red {fi : MI} {t1 t2 : MT} {f : ME} {tg1 tg2 : Tg} {own vs1 : List Nat} {es : List D} {a : Addr} (hes : ∀ e H, RV (gOf X T) e H (.tup es) (.ref a)) (ho : ∀ i ∈ tg1.ix, i ∈ own) (ho2 : ∀ i ∈ tg2.ix, i ∈ vs1) {σ : L2.St} {H : Hp} {Q : VK} (h : tE (gOf X T) W (lc2M fi tg1 t1 es tg2 t2 f own vs1) σ H Q) :
    tLc2 (tI (gOf X T) W fi) (gT X.K tg1) (tT (gOf X T) WF t1) (iTup X.K (tC (.ref a))) (gT X.K tg2) (tT (gOf X T) WF t2) (tE (gOf X T) WF f) own vs1 σ H Q := by
  obtain ⟨x, m, ρ, S, p, h⟩ := h
  refine ⟨x, m, ρ, S, p, (Post.bind h).mono fun ds S1 m1 H1 E1 R1 ⟨_, _, h1⟩ J hJ => fun D₀ hD => ?_⟩
  have p1 := p.ext E1 R1
  split at h1
  case isFalse => exact h1.elim
  case isTrue hbig =>
  cases hL : lc2L tg1 t1 es tg2 t2 f vs1 (wipeE ρ own) ds S1 with
  | un => rw [hL] at h1; exact h1.elim
  | ex ee S' => rw [hL] at h1; exact h1.elim
  | ok ys Sf =>
    rw [hL] at h1
    refine ⟨fun i k H2 => ∃ m2 S2 acc vacc rest, k = ds.length - i ∧ i ≤ ds.length ∧ Ext (gOf X T) m1 H1 m2 H2 ∧ Rp (gOf X T) (D₀ :: x) m2 H2 (wipeE ρ own) S2 (L2.wipe σ own) ∧ H2 D₀ = some (.lst vacc) ∧
      RVs (gOf X T) (D₀ :: x ++ m2) H2 acc vacc ∧ vacc.length ≤ 1000 * i ∧ lc2L tg1 t1 es tg2 t2 f vs1 (wipeE ρ own) (ds.drop i) S2 = .ok rest Sf ∧ ys = acc ++ rest ∧ D₀ ∉ m2,
      ⟨ds.length, m1, S1, [], [], ys, by simp, Nat.zero_le _, Ext.new hD, ⟨(RE.wipeS own p1.env).keep (Keep.hide hD), R1.keep (Keep.hide hD) (fun b hb => List.mem_cons_of_mem _ (List.mem_append_right _ hb)) (fun a ha => by
          obtain ⟨u, q⟩ := R1.live ha
          rw [upd_ne (ne_of_none q hD)]) (fun b y q => by rw [upd_ne (ne_of_none q hD)]; exact q), fun b hb => ?_, p1.tab.ext fun b u q => by rw [upd_ne (ne_of_none q hD)]; exact q⟩, upd_same, .nil, Nat.zero_le _, by rw [List.drop_zero]; exact hL, rfl, fun z => by
          obtain ⟨u, q⟩ := R1.live z
          rw [hD] at q; cases q⟩, ?_⟩
    · rcases List.mem_cons.mp hb with z | z
      · rw [z]; exact ⟨_, upd_same, fun ps z => by cases z⟩
      · obtain ⟨u, q, qn⟩ := p1.ex b z
        exact ⟨u, by rw [upd_ne (ne_of_none q hD)]; exact q, qn⟩
    rintro i k H2 ⟨m2, S2, acc, vacc, rest, rfl, hi, E2, p2, hd2, r2, hv, hl, hy, nD⟩
    have hY := hJ (D₀ :: x) m2 H2 (fun b hb => by
      rcases List.mem_cons.mp hb with z | z
      · exact .inr (by rw [z]; exact hD)
      · exact .inl z) E2 p2.trk i
    by_cases hlt : i < ds.length
    · obtain ⟨hgo, hyl⟩ := hY.1 ds[i] (List.getElem?_eq_getElem hlt)
      rw [List.drop_eq_getElem_cons hlt] at hl
      simp only [lc2L] at hl
      refine .inr ⟨hgo, fun H3 => ∃ m3 S3 acc vacc rest, Ext (gOf X T) m1 H1 m3 H3 ∧ Rp (gOf X T) (D₀ :: x) m3 H3 (wipeE ρ own) S3 (L2.wipe σ own) ∧ H3 D₀ = some (.lst vacc) ∧
        RVs (gOf X T) (D₀ :: x ++ m3) H3 acc vacc ∧ vacc.length ≤ 1000 * (i + 1) ∧ lc2L tg1 t1 es tg2 t2 f vs1 (wipeE ρ own) (ds.drop (i + 1)) S3 = .ok rest Sf ∧ ys = acc ++ rest ∧ D₀ ∉ m3,
        fun H3 ⟨m3, S3, acc, vacc, rest, a1, a2, a3, a4, a5, a6, a7, a8⟩ => ⟨ds.length - (i + 1), by omega, m3, S3, acc, vacc, rest, rfl, hlt, a1, a2, a3, a4, a5, a6, a7, a8⟩, fun v H3 yv => ?_⟩
      obtain ⟨E3, k3, r3⟩ := hyl v H3 yv
      have R3 : RS (gOf X T) (D₀ :: x ++ m2) m2 H3 S2 := p2.sto.stay E3 fun a ha => k3 a ha (by obtain ⟨o, q⟩ := p2.sto.live ha; rw [q]; simp)
      have p3 := p2.ext E3 R3
      cases hs : setT tg1 ds[i] (wipeE ρ own) with
      | none => rw [hs] at hl; cases hl
      | some ρ' =>
        rw [hs] at hl
        dsimp only at hl
        refine tg_ok r3 p3.env hs ho fun σ' re' hw => ⟨by rw [hw, wipe_idem], ?_⟩
        have q3 : Rp (gOf X T) (D₀ :: x) m2 H3 ρ' S2 σ' := ⟨re', R3, p3.ex, p3.tab⟩
        have nD' : ∀ {m m' : List Addr} {H H' : Hp}, Ext (gOf X T) m H m' H' → D₀ ∉ m → Nt H D₀ → D₀ ∉ m' := fun E n q z => by
          obtain ⟨nw, e1, f1⟩ := E.pre
          rw [e1] at z
          rcases List.mem_append.mp z with z | z
          · exact n z
          · exact f1 _ z q
        have d3 : H3 D₀ = some (.lst vacc) := E3.keep _ _ hd2 nD (fun ps z => by cases z)
        refine ⟨D₀ :: x, m2, ρ', S2, q3, ?_⟩
        cases ht : t1 ρ' S2 with
        | un => rw [ht] at hl; cases hl
        | ex ee S' => rw [ht] at hl; cases hl
        | ok b S3 =>
          rw [ht] at hl
          intro m4 H4 E4 R4
          have q4 := q3.ext E4 R4
          have d4 : H4 D₀ = some (.lst vacc) := E4.keep _ _ d3 nD (fun ps z => by cases z)
          have n4 := nD' E4 nD ⟨_, d3, fun ps z => by cases z⟩
          cases b with
          | false =>
            exact iteF ⟨m4, S3, acc, vacc, rest, (E2.trans E3).trans E4, ⟨(p3.ext E4 R4).env, R4, (p3.ext E4 R4).ex, (p3.ext E4 R4).tab⟩, d4, r2.keep ((E3.trans E4).kp), by omega, hl, hy, n4⟩
          | true =>
            dsimp only at hl
            refine iteT ⟨a, rfl, ?_, ?_⟩
            · cases hes (D₀ :: x ++ m4) H4 with
              | tup h1 h2 => exact ⟨_, h1⟩
            · cases hf : lcL tg2 t2 f (wipeE ρ' vs1) es S3 with
              | un => rw [hf] at hl; cases hl
              | ex ee S' => rw [hf] at hl; cases hl
              | ok zs S4 =>
                rw [hf] at hl
                dsimp only at hl
                cases hr : lc2L tg1 t1 es tg2 t2 f vs1 (wipeE ρ own) (ds.drop (i + 1)) S4 with
                | un => rw [hr] at hl; cases hl
                | ex ee S' => rw [hr] at hl; cases hl
                | ok rest' S5 =>
                  rw [hr] at hl
                  cases hl
                  have hz : 1000 * i + es.length < sizeLine := by
                    have h3 : 1000 * i + es.length ≤ 1001000 := by
                      have := hbig.1
                      have := hbig.2
                      omega
                    exact Nat.lt_of_le_of_lt h3 (by rw [sizeLine_eq]; decide)
                  refine lc_inner ho2 hes hD p1.tab ((E2.trans E3).trans E4) q4 ((p3.ext E4 R4).env) d4 (r2.keep ((E3.trans E4).kp)) hv hz n4 hf fun m' H' vacc' E' R' x' t' oe' d' r' hv' nD' => ?_
                  exact ⟨m', S4, acc ++ zs, vacc', rest', E', ⟨oe', R', x', t'⟩, d', r', by have := hbig.2; omega, hr, by rw [hy, List.append_assoc], nD'⟩
    · have e : i = ds.length := by omega
      rw [e, List.drop_length] at hl
      cases hl
      rw [List.append_nil] at hy
      subst hy
      refine .inl ⟨hY.2 (by omega), ?_⟩
      have ks : Keep (gOf X T) (D₀ :: x ++ m2) H2 (x ++ m2) H2 := keep_sub fun a ha => List.mem_cons_of_mem _ ha
      refine h1 m2 H2 E2 (p2.sto.keep ks (fun b hb => List.mem_append_right _ hb) (fun _ _ => rfl) fun _ _ q => q) _ (.d (.lst hd2 (fun z => ?_) (r2.keep ks)))
      rcases List.mem_append.mp z with z | z
      · obtain ⟨o, q, _⟩ := p1.ex _ z
        rw [hD] at q; cases q
      · exact nD z
variable {elt tg iter tgB : Expr} {ifs ifs1 : List Expr} {scope : Scope} {pos : Pos} {fi : MI} {t1 t2 : MT} {f : ME}
theorem e_lc2 (tgt tgt2 : Tg) (own : List (Str × Nat)) (vs1 : List Nat) {c : Str} {es : List D} {cp : Pos} (kc : KD (gOf X T) c (.tup es)) (hc : X.calm = true) (hN : X.N.Nodup) (hi : PI X tg iter (tI (gOf X T) W fi)) (ok : BlkOk X.N X.env.scope scope own)
    (hg : ∀ (s : Shared) (H : Hp) (C : Addr) (cl : List (Str × Addr)) (fp : List Addr), PG (X.blk s H scope (compEnvC scope cl C X.env) fp) tg (gT X.K tgt))
    (ht : ∀ (s : Shared) (H : Hp) (C : Addr) (cl : List (Str × Addr)) (fp : List Addr), Takes (X.blk s H scope (compEnvC scope cl C X.env) fp) WF → PTs (X.blk s H scope (compEnvC scope cl C X.env) fp) ifs (tT (gOf (X.blk s H scope (compEnvC scope cl C X.env) fp) T) WF t1))
    (hg1 : ∀ (s : Shared) (H : Hp) (C : Addr) (cl : List (Str × Addr)) (fp : List Addr), PG (X.blk s H scope (compEnvC scope cl C X.env) fp) tgB (gT X.K tgt2))
    (ht1 : ∀ (s : Shared) (H : Hp) (C : Addr) (cl : List (Str × Addr)) (fp : List Addr), Takes (X.blk s H scope (compEnvC scope cl C X.env) fp) WF → PTs (X.blk s H scope (compEnvC scope cl C X.env) fp) ifs1 (tT (gOf (X.blk s H scope (compEnvC scope cl C X.env) fp) T) WF t2))
    (he : ∀ (s : Shared) (H : Hp) (C : Addr) (cl : List (Str × Addr)) (fp : List Addr), Takes (X.blk s H scope (compEnvC scope cl C X.env) fp) WF → PE (X.blk s H scope (compEnvC scope cl C X.env) fp) elt (tE (gOf (X.blk s H scope (compEnvC scope cl C X.env) fp) T) WF f))
    (ho : ∀ i ∈ tgt.ix, i ∈ own.map (·.2)) (ho2 : ∀ i ∈ tgt2.ix, i ∈ vs1) (hv : ∀ i ∈ vs1, i ∈ own.map (·.2))
    (hgl : ∀ (s : Shared) (H : Hp) (C : Addr) (cl : List (Str × Addr)) (fp : List Addr), Gl (X.blk s H scope (compEnvC scope cl C X.env) fp) c := by intros; rfl) (hd : (c == ("__debug__" : Str)) = false := by decide)
    (hs : ∀ x, foldedSetIterable iter X.env x = pure x := by intro _; rfl) (hs1 : ∀ env x, foldedSetIterable (.Name c cp) env x = pure x := by intro _ _; rfl) :
    PE X (.ListComp elt [⟨tg, iter, ifs, 0⟩, ⟨tgB, .Name c cp, ifs1, 0⟩] scope pos) (tE (gOf X T) W (lc2M fi tgt t1 es tgt2 t2 f (own.map (·.2)) vs1)) := by
  obtain ⟨u, v, k1, k2, k3⟩ := kc.ex
  obtain ⟨a, rfl⟩ : ∃ a, v = .ref a := by
    cases k3 [] (fun _ => none) with
    | tup _ _ => exact ⟨_, rfl⟩
  exact pe_mono (pe_lc2 hc hN hi ok hv hg (fun s H C cl fp => ht s H C cl fp takes0) (fun s H C cl fp => pi_tup (pe_glob (hgl s H C cl fp) k1 k2 hd)) hg1 (fun s H C cl fp => ht1 s H C cl fp takes0) (fun s H C cl fp => he s H C cl fp takes0) hs hs1) fun σ H Q h => lc2_red k3 ho ho2 h
/-! ### t.index(x): a tuple of texts -/
def fndS : List Str → Str → Option Nat
  | [], _ => none
  | y :: ys, z => if y = z then some 0 else (fndS ys z).map (· + 1)
theorem fndS_ok : ∀ {ys : List Str} {z : Str} {j : Nat}, fndS ys z = some j → ys[j]? = some z ∧ ∀ m, m < j → ys[m]? ≠ some z
  | [], _, _, h => by simp [fndS] at h
  | y :: ys, z, j, h => by
    unfold fndS at h
    split at h
    · rename_i e
      cases h
      exact ⟨by simp [e], fun m hm => by omega⟩
    · rename_i e
      obtain ⟨k, hk, rfl⟩ := Option.map_eq_some_iff.mp h
      obtain ⟨h1, h2⟩ := fndS_ok hk
      refine ⟨by simpa using h1, fun m hm => ?_⟩
      cases m with
      | zero => simpa using e
      | succ m => simpa using h2 m (by omega)
structure KT (G : Gc) (x : Str) (ys : List Str) : Prop where
  ex : ∃ (a : Addr) (its : Array Value) (n : Nat) (sl : Array (Option Value)), G.mg x = some (.ref a) ∧ G.K.lookup a = some ⟨.type "tuple", none, .seq its n, sl⟩ ∧ its.size ≤ 1000 ∧ Vals (ys.map V.str) its.toList
def idxM (ys : List Str) (g : ME) : ME := fun ρ S => (argsM [g] ρ S).bind fun us S2 => match us with
  | [.d (.str z)] => match fndS ys z with
    | some j => .ok (.d (.int (j : Nat))) S2
    | none => .un
  | _ => .un
theorem e_idx {x : Str} {ys : List Str} {e : Expr} {g : ME} {apos pos px : Pos} (kt : KT (gOf X T) x ys) (he : PE X e (tE (gOf X T) W g)) (hg : Gl X x := by rfl) (hd : (x == ("__debug__" : Str)) = false := by decide)
    (hbase : attributeBase (.Name x px) "index" X.env (eval (.Name x px) X.env) = eval (.Name x px) X.env := by rfl)
    (hfew : ((backTo pos (starEach (e :: []) X.env)).all (fun x => !x.1) && (backToKw pos (keywordEach [] X.env)).all (fun x => x.1.isSome)
      && decide ((e :: []).length + ([] : List Keyword).length + (if ([] : List Keyword).isEmpty then 0 else 1) < 30)) = true := by rfl)
    (hline : (apos.endLine == pos.line) = true := by rfl) (hs : starEach (e :: []) X.env = (false, eval e X.env) :: starEach [] X.env := by rfl) (hplain : (backTo pos (starEach [] X.env)).any (·.1) = false := by rfl) :
    PE X (.Call (.Attribute (.Name x px) "index" apos) [e] [] pos) (tE (gOf X T) W (idxM ys g)) := by
  obtain ⟨a, its, n, sl, h1, h2, h3, h4⟩ := kt.ex
  refine pe_mono (pe_bm PySem.F.plainAttrs_tuple PySem.F.slot_tuple_index PySem.F.type_tuple_index mt_tup_index (pe_glob hg h1 (v := .ref a) rfl hd) (a_cons he a_nil hs) hbase hfew hline hs hplain) fun σ H Q h => ?_
  obtain ⟨x, m, ρ, S, p, h⟩ := h
  refine ⟨.inr (.inl ⟨rfl, _, h2, rfl, rfl⟩), x, m, ρ, S, p, (Post.bind h).mono fun us S2 m2 H2 E2 R2 ⟨_, _, h2'⟩ ws rws => ?_⟩
  split at h2'
  · rename_i z
    split at h2'
    · rename_i j hj
      obtain ⟨g1, g2⟩ := fndS_ok hj
      cases rws with
      | cons r t => cases t; cases r with
        | d r =>
          cases r
          exact ⟨a, ys, _, j, rfl, rfl, .inr ⟨_, its, n, h2, rfl, rfl, Nat.le_of_lt (small1000 h3), h4⟩, g1, g2, h2' m2 H2 Ext.refl R2 _ (.d (.int _))⟩
    · exact h2'.elim
  · exact h2'.elim
theorem kt_of {P : Program} {w : World} {K : PySem.W.Frag} {mg : Str → Option Value} {h : Heap} {x : Str} {a : Addr} {its : Array Value} {n : Nat} {sl : Array (Option Value)} {ys : List Str} (X : K.In h) (G : h.Ns mainGlobals mg) (g : PySem.W.nsIn K mainGlobals x = some (some (.ref a))) (l : K.lookup a = some ⟨.type "tuple", none, .seq its n, sl⟩) (z : its.size ≤ 1000) (v : Vals (ys.map V.str) its.toList) :
    KT ⟨P, w, K, mg, T⟩ x ys := ⟨a, its, n, sl, PySem.W.mg_of X G g, l, z, v⟩
end
end Mir

/-! Mir22: classes named in except; dict(pairs); list.index; a tuple with cells that is handed back. -/
namespace Mir
open PySem PySem.Spec PyProof.Rows L2 RZ
theorem exm_is {K : PySem.W.Frag} {S C : Addr} {b : Bool} (h1 : PySem.W.subIn K (.ref C) (.type "BaseException") = some true) (h2 : PySem.W.isClsIn K C = true) (h3 : PySem.W.typeIn K (.ref C) = some (.type "type")) (h4 : PySem.W.subIn K (.ref S) (.ref C) = some b) :
    PySem.W.exmOne K (.ref S) (.ref C) = some b := by
  have e1 : (PySem.W.subIn K (.ref C) (.type "BaseException") == some true) = true := by rw [h1] <;> rfl
  have e2 : ((PySem.W.clsIn K C).isSome && PySem.W.typeIn K (.ref C) == some (.type "type")) = true := by
    have h2' : (PySem.W.clsIn K C).isSome = true := h2
    rw [h2', h3] <;> rfl
  show (if (PySem.W.subIn K (.ref C) (.type "BaseException") == some true) = true then (if ((PySem.W.clsIn K C).isSome && PySem.W.typeIn K (.ref C) == some (.type "type")) = true then PySem.W.subIn K (.ref S) (.ref C) else none) else none) = some b
  rw [if_pos e1, if_pos e2]
  exact h4
end Mir

/-! Mir23: list(zip(a, b)) of lists, tuples; list(range(..)). -/
namespace Mir
open PySem PySem.Spec PyProof.Rows L2 RZ
namespace LZ
open Sem (wp)
section
variable {prog : Program} {w : World} {A : Around} {E : Value → Shared → Prop} {s : Shared} {z TI TO i1 i2 : Addr} {fp1 fp2 : List Addr} {n1 n2 i : Nat} {P1 P2 : Nat → Value → Prop} {St1 St2 : Nat → Heap → Prop}
theorem next_item {T : Addr} {f : Bool} {oT : Obj} {Q : Value → Shared → Prop} (S : ZipSep2 z TI TO i1 i2 fp1 fp2) (D1 : Draws prog w A i1 fp1 n1 P1 St1) (D2 : Draws prog w A i2 fp2 n2 P2 St2)
    (hz : IsZipHeld s.heap z TI TO T f) (hT : s.heap.get? T = some oT) (hTI : IsTupOf2 s.heap TI (.ref i1) (.ref i2)) (st1 : St1 i s.heap) (st2 : St2 i s.heap) (hlt1 : i < n1) (hlt2 : i < n2)
    (hQ : ∀ x1 x2 h' tk, P1 i x1 → P2 i x2 → IsZipHeld h' z TI TO T true → St1 (i + 1) h' → St2 (i + 1) h' → IsTupOf2 h' s.heap.objs.size x1 x2 → h'.objs.size = s.heap.objs.size + 1 →
      (∀ c o, c ≠ z → c ≠ i1 → c ≠ i2 → s.heap.get? c = some o → h'.get? c = some o) → Q (Value.ref s.heap.objs.size) { s with heap := h', toks := tk }) :
    wpAny (model prog w) A (Builtin.«zip.__next__» ⟨[.ref z], []⟩) (fun fin s' => ∃ v, fin = .done (.ret v) ∧ Q v s') E s := by
  obtain ⟨hp, g, d, tk0, os⟩ := s
  show wpAny _ _ (field (.ref z) 2 >>= _) _ _ _
  refine wpAny_bind (wpAny_field hz rfl (x := .bool false) rfl ?_)
  show wpAny _ _ (field (.ref z) 3 >>= _) _ _ _
  refine wpAny_bind (wpAny_field hz rfl (x := .ref TI) rfl ?_)
  refine wpAny_bind (wpAny_seqItems hTI rfl ?_)
  show wpAny _ _ (Builtin.SmallTypes.ownedTupleIsFree (.ref z) >>= _) _ _ _
  refine wpAny_bind (wpAny_tupleHeld_zip hz hT fun h₁ hz₁ hs₁ => ?_)
  replace hs₁ : Heap.SameBut z hp h₁ := hs₁
  simp only [Bool.false_eq_true, if_false]
  refine wpAny_bind ?_
  rw [← Array.forIn_toList]
  simp only [List.forIn_cons, List.forIn_nil]
  refine wpAny_bind (wpAny_bind (wpAny_holding ?_))
  show wpAny _ _ (Builtin.SmallTypes.nextOf (.ref i1) >>= _) _ _ _
  refine wpAny_bind (D1.item i ⟨h₁, g, d, tk0, os⟩ _ _ hlt1 (D1.over st1 hs₁ S.zf1) fun x1 p1 tk1 hx1 sn1 hp1 => wpAny_pure ?_)
  replace hp1 : Heap.SameBut i1 h₁ p1 := hp1
  refine wpAny_pure ?_
  refine wpAny_bind (wpAny_bind (wpAny_holding ?_))
  show wpAny _ _ (Builtin.SmallTypes.nextOf (.ref i2) >>= _) _ _ _
  refine wpAny_bind (D2.item i ⟨p1, g, d, tk1, os⟩ _ _ hlt2 (D2.over (D2.over st2 hs₁ S.zf2) hp1 S.sep1_2) fun x2 p2 tk2 hx2 sn2 hp2 => wpAny_pure ?_)
  replace hp2 : Heap.SameBut i2 p1 p2 := hp2
  refine wpAny_pure (wpAny_pure ?_)
  show wpAny _ _ (newTuple [x1, x2] >>= _) _ _ _
  refine wpAny_bind (wpAny_newTuple ?_)
  have hsz : p2.objs.size = hp.objs.size := by rw [hp2.1, hp1.1, hs₁.1]
  have hz₃ : IsZipHeld p2 z TI TO T true := hp2.extBut _ _ S.zi2 (hp1.extBut _ _ S.zi1 hz₁)
  have hk : ∀ c o, c ≠ z → c ≠ i1 → c ≠ i2 → hp.get? c = some o → p2.get? c = some o := fun c o c1 c2 c3 e => hp2.extBut _ _ c3 (hp1.extBut _ _ c2 (hs₁.extBut _ _ c1 e))
  have h1₃ : St1 (i + 1) p2 := D1.over sn1 hp2 S.sep2_1
  refine wpAny_pure ⟨_, rfl, ?_⟩
  show Q (.ref p2.objs.size) _
  have hpr : IsTupOf2 (p2.push { cls := .type "tuple", data := .seq #[x1, x2] }) p2.objs.size x1 x2 := Heap.get?_push_size _ rfl
  have hz4 : (p2.push { cls := .type "tuple", data := .seq #[x1, x2] }).objs.size = p2.objs.size + 1 := Heap.size_push ..
  rw [hsz] at hpr hz4 ⊢
  exact hQ x1 x2 _ tk2 hx1 hx2 (Heap.get?_push_of_some _ hz₃) (D1.frame _ _ _ h1₃ fun b _ o e => Heap.get?_push_of_some _ e) (D2.frame _ _ _ sn2 fun b _ o e => Heap.get?_push_of_some _ e) hpr hz4 fun c o c1 c2 c3 e => Heap.get?_push_of_some _ (hk c o c1 c2 c3 e)
theorem next_end {T : Addr} {f : Bool} {oT : Obj} {Q : Fin → Shared → Prop} (S : ZipSep2 z TI TO i1 i2 fp1 fp2) (D1 : Draws prog w A i1 fp1 n1 P1 St1) (D2 : Draws prog w A i2 fp2 n2 P2 St2)
    (hz : IsZipHeld s.heap z TI TO T f) (hT : s.heap.get? T = some oT) (hTI : IsTupOf2 s.heap TI (.ref i1) (.ref i2)) (st1 : St1 i s.heap) (st2 : St2 i s.heap) (hle1 : i ≤ n1) (hle2 : i ≤ n2) (hend : i = n1 ∨ i = n2)
    (hE : ∀ h' tk e, (∀ c o, c ≠ z → c ≠ i1 → c ≠ i2 → s.heap.get? c = some o → h'.get? c = some o) → (∃ o, h'.get? e = some o ∧ o.cls = .type "StopIteration") → E (.ref e) { s with heap := h', toks := tk }) :
    wpAny (model prog w) A (Builtin.«zip.__next__» ⟨[.ref z], []⟩) Q E s := by
  obtain ⟨hp, g, d, tk0, os⟩ := s
  show wpAny _ _ (field (.ref z) 2 >>= _) _ _ _
  refine wpAny_bind (wpAny_field hz rfl (x := .bool false) rfl ?_)
  show wpAny _ _ (field (.ref z) 3 >>= _) _ _ _
  refine wpAny_bind (wpAny_field hz rfl (x := .ref TI) rfl ?_)
  refine wpAny_bind (wpAny_seqItems hTI rfl ?_)
  show wpAny _ _ (Builtin.SmallTypes.ownedTupleIsFree (.ref z) >>= _) _ _ _
  refine wpAny_bind (wpAny_tupleHeld_zip hz hT fun h₁ hz₁ hs₁ => ?_)
  replace hs₁ : Heap.SameBut z hp h₁ := hs₁
  simp only [Bool.false_eq_true, if_false]
  refine wpAny_bind ?_
  rw [← Array.forIn_toList]
  simp only [List.forIn_cons, List.forIn_nil]
  refine wpAny_bind (wpAny_bind (wpAny_holding ?_))
  show wpAny _ _ (Builtin.SmallTypes.nextOf (.ref i1) >>= _) _ _ _
  by_cases hlt1 : i < n1
  · refine wpAny_bind (D1.item i ⟨h₁, g, d, tk0, os⟩ _ _ hlt1 (D1.over st1 hs₁ S.zf1) fun x1 p1 tk1 hx1 sn1 hp1 => wpAny_pure ?_)
    replace hp1 : Heap.SameBut i1 h₁ p1 := hp1
    refine wpAny_pure ?_
    refine wpAny_bind (wpAny_bind (wpAny_holding ?_))
    show wpAny _ _ (Builtin.SmallTypes.nextOf (.ref i2) >>= _) _ _ _
    have hi2 : i = n2 := by omega
    refine wpAny_bind (D2.done ⟨p1, g, d, tk1, os⟩ _ _ (by rw [← hi2]; exact D2.over (D2.over st2 hs₁ S.zf2) hp1 S.sep1_2) fun q e hq he => ?_)
    replace hq : Heap.ExtBut i2 p1 q := hq
    exact hE q tk1 e (fun c o cz c1 c2 x => hq _ _ c2 (hp1.extBut _ _ c1 (hs₁.extBut _ _ cz x))) he
  · have hi1 : i = n1 := by omega
    refine wpAny_bind (D1.done ⟨h₁, g, d, tk0, os⟩ _ _ (by rw [← hi1]; exact D1.over st1 hs₁ S.zf1) fun q e hq he => ?_)
    replace hq : Heap.ExtBut i1 h₁ q := hq
    exact hE q tk0 e (fun c o cz c1 c2 x => hq _ _ c1 (hs₁.extBut _ _ cz x)) he
theorem py_item {T : Addr} {f : Bool} {oT : Obj} {Q : Option Value → Shared → Prop} (S : ZipSep2 z TI TO i1 i2 fp1 fp2) (D1 : Draws prog w A.in1 i1 fp1 n1 P1 St1) (D2 : Draws prog w A.in1 i2 fp2 n2 P2 St2)
    (hz : IsZipHeld s.heap z TI TO T f) (hT : s.heap.get? T = some oT) (hTI : IsTupOf2 s.heap TI (.ref i1) (.ref i2)) (st1 : St1 i s.heap) (st2 : St2 i s.heap) (hlt1 : i < n1) (hlt2 : i < n2)
    (hQ : ∀ x1 x2 h' tk, P1 i x1 → P2 i x2 → IsZipHeld h' z TI TO T true → St1 (i + 1) h' → St2 (i + 1) h' → IsTupOf2 h' s.heap.objs.size x1 x2 → h'.objs.size = s.heap.objs.size + 1 →
      (∀ c o, c ≠ z → c ≠ i1 → c ≠ i2 → s.heap.get? c = some o → h'.get? c = some o) → Q (some (Value.ref s.heap.objs.size)) { s with heap := h', toks := tk }) :
    wpAny (model prog w) A (pyNext (.ref z)) Q E s := by
  have hTy : s.TypeIs (.ref z) "zip" := ⟨_, hz, rfl⟩
  unfold pyNext
  exact wpAny_bind (wpAny_attempt (wpAny_callSpecial?_slot (name := Str.ofString "__next__") hTy F.slot_zip_next
    (wpAny_call_entry F.slot_zip_next hTy F.entry_zip_next
      (next_item S D1 D2 hz hT hTI st1 st2 hlt1 hlt2 fun x1 x2 h' tk y1 y2 b1 d1 d2 b5 b6 b7 => wpAny_pure (hQ x1 x2 h' tk y1 y2 b1 d1 d2 b5 b6 b7)) (F.args_zip_next_1 _))))
theorem py_end {T : Addr} {f : Bool} {oT : Obj} {Q : Option Value → Shared → Prop} (S : ZipSep2 z TI TO i1 i2 fp1 fp2) (D1 : Draws prog w A.in1 i1 fp1 n1 P1 St1) (D2 : Draws prog w A.in1 i2 fp2 n2 P2 St2)
    (hz : IsZipHeld s.heap z TI TO T f) (hT : s.heap.get? T = some oT) (hTI : IsTupOf2 s.heap TI (.ref i1) (.ref i2)) (st1 : St1 i s.heap) (st2 : St2 i s.heap) (hle1 : i ≤ n1) (hle2 : i ≤ n2) (hend : i = n1 ∨ i = n2)
    (hQ : ∀ h' tk, (∀ c o, c ≠ z → c ≠ i1 → c ≠ i2 → s.heap.get? c = some o → h'.get? c = some o) → Q none { s with heap := h', toks := tk }) : wpAny (model prog w) A (pyNext (.ref z)) Q E s := by
  have hTy : s.TypeIs (.ref z) "zip" := ⟨_, hz, rfl⟩
  unfold pyNext
  refine wpAny_bind (wpAny_attempt (wpAny_callSpecial?_slot (name := Str.ofString "__next__") hTy F.slot_zip_next
    (wpAny_call_entry F.slot_zip_next hTy F.entry_zip_next (next_end S D1 D2 hz hT hTI st1 st2 hle1 hle2 hend fun h' tk e hk he => ?_) (F.args_zip_next_1 _))))
  obtain ⟨o, ho, hc⟩ := he
  refine wpAny_bind (wpAny_isInstance (T := "StopIteration") (b := true) ⟨o, ho, hc⟩ isSubtype_stop ?_)
  exact wpAny_pure (hQ _ _ hk)
end
theorem zip_no_len : typeLookup (.type "zip") "__len__" = pure none := by rw [typeLookup_type, builtinLookup_eq_fast]; kernel_rfl
theorem zip_no_hint : typeLookup (.type "zip") "__length_hint__" = pure none := by rw [typeLookup_type, builtinLookup_eq_fast]; kernel_rfl
/-- what was put into the list so far: pairs -/
structure Prs (P1 P2 : Nat → Value → Prop) (B : Nat) (h : Heap) (L : Addr) (acc : Array Value) (as : List Addr) (i : Nat) : Prop where
  acc : acc.toList = as.map Value.ref
  len : as.length = i
  at' : ∀ (j : Nat) (p : Addr), as[j]? = some p → ∃ x1 x2, P1 j x1 ∧ P2 j x2 ∧ IsTupOf2 h p x1 x2
  rng : ∀ p ∈ as, B ≤ p ∧ p < h.objs.size ∧ p ≠ L
  nd : as.Nodup
theorem Prs.keep {P1 P2 : Nat → Value → Prop} {B : Nat} {h h' : Heap} {L : Addr} {acc : Array Value} {as : List Addr} {i : Nat} (x : Prs P1 P2 B h L acc as i) (k : ∀ p ∈ as, ∀ o, h.get? p = some o → h'.get? p = some o) : Prs P1 P2 B h' L acc as i := by
  have k2 : ∀ (j : Nat) (p : Addr), as[j]? = some p → ∃ x1 x2, P1 j x1 ∧ P2 j x2 ∧ IsTupOf2 h' p x1 x2 := fun j p e => by
    obtain ⟨x1, x2, a, b, c⟩ := x.at' j p e
    exact ⟨x1, x2, a, b, k p (List.mem_of_getElem? e) _ c⟩
  refine ⟨x.acc, x.len, k2, fun p hp => ?_, x.nd⟩
  obtain ⟨j, hj⟩ := List.getElem?_of_mem hp
  obtain ⟨x1, x2, _, _, c⟩ := k2 j p hj
  exact ⟨(x.rng p hp).1, Heap.lt_size c, (x.rng p hp).2.2⟩
section
variable {prog : Program} {w : World} {A : Around} {R : Result → Shared → Prop} {z TI TO i1 i2 : Addr} {fp1 fp2 : List Addr} {n1 n2 : Nat} {P1 P2 : Nat → Value → Prop} {St1 St2 : Nat → Heap → Prop}
/-- the zip's state in between -/
def Zst (h : Heap) (z TI TO i1 i2 L : Addr) (i : Nat) : Prop := IsTupOf2 h TI (.ref i1) (.ref i2) ∧ ((i = 0 ∧ IsZip h z TI TO .none ∧ ∃ a b, IsTupOf2 h TO a b) ∨ ∃ T f oT, IsZipHeld h z TI TO T f ∧ h.get? T = some oT ∧ T ≠ z ∧ T ≠ TO ∧ T ≠ i1 ∧ T ≠ i2 ∧ T ≠ L)
/-- behind the list's making: what stays -/
abbrev After (P1 P2 : Nat → Value → Prop) (B : Nat) (R : Result → Shared → Prop) (res : Value) (z TO i1 i2 L : Addr) (n : Nat) (s : Shared) : Prop := ∀ h' tk acc' c' as, (∀ b o, b ≠ L → b ≠ z → b ≠ TO → b ≠ i1 → b ≠ i2 → s.heap.get? b = some o → h'.get? b = some o) → h'.get? L = some { cls := .type "list", dict := none, data := .seq acc' c', slots := #[] } → Prs P1 P2 B h' L acc' as n → R (.ok (.ret res)) { s with heap := h', toks := tk }
theorem loop (B : Nat) (S : ZipSep2 z TI TO i1 i2 fp1 fp2) (D1 : Draws prog w A.in1.in1 i1 fp1 n1 P1 St1) (D2 : Draws prog w A.in1.in1 i2 fp2 n2 P2 St2) (L : Addr) (hLz : L ≠ z) (hLTI : L ≠ TI) (hLTO : L ≠ TO) (hL1 : L ∉ fp1) (hL2 : L ∉ fp2) (hn : min n1 n2 ≤ sizeLine) (hBz : z < B) (hBT : TO < B) (hB1 : i1 < B) (hB2 : i2 < B) (res : Value) :
    ∀ (k i : Nat) (s : Shared) (acc : Array Value) (c : Nat) (as : List Addr), min n1 n2 - i = k → i ≤ min n1 n2 → Zst s.heap z TI TO i1 i2 L i → St1 i s.heap → St2 i s.heap → s.heap.get? L = some { cls := .type "list", dict := none, data := .seq acc c, slots := #[] } →
      Prs P1 P2 B s.heap L acc as i → B ≤ s.heap.objs.size → After P1 P2 B R res z TO i1 i2 L (min n1 n2) s →
      codeAny (model prog w) A (.builtin "list.extend.loop" ⟨[.ref L, .ref z, res], []⟩) R s := by
  have hLi1 : L ≠ i1 := fun e => hL1 (by rw [e]; exact S.mem1)
  have hLi2 : L ≠ i2 := fun e => hL2 (by rw [e]; exact S.mem2)
  have off : ∀ {p : Nat}, B ≤ p → p ≠ z ∧ p ≠ TO ∧ p ≠ i1 ∧ p ≠ i2 := fun {p} h => ⟨Nat.ne_of_gt (Nat.lt_of_lt_of_le hBz h), Nat.ne_of_gt (Nat.lt_of_lt_of_le hBT h), Nat.ne_of_gt (Nat.lt_of_lt_of_le hB1 h), Nat.ne_of_gt (Nat.lt_of_lt_of_le hB2 h)⟩
  intro k
  induction k with
  | zero =>
    intro i s acc c as hk hi hz h1 h2 hL hacc hB hR
    refine codeAny_builtin F.entry_extend_loop ?_
    rw [Around.under_plainId F.plain_extend_loop _]
    show wpAny _ A.in1 (pyNext (.ref z) >>= _) _ _ s
    have hin : i = n1 ∨ i = n2 := by omega
    have hin2 : i = min n1 n2 := by omega
    obtain ⟨hTI, hz⟩ := hz
    have fin : ∀ h' tk, (∀ c o, c ≠ z → c ≠ TO → c ≠ i1 → c ≠ i2 → s.heap.get? c = some o → h'.get? c = some o) → R (.ok (.ret res)) { s with heap := h', toks := tk } := fun h' tk hk' => by
      refine hR h' tk acc c as (fun b o _ b1 b2 b3 b4 e => hk' b o b1 b2 b3 b4 e) (hk' _ _ hLz hLTO hLi1 hLi2 hL) (hin2 ▸ hacc.keep fun p hp o e => ?_)
      obtain ⟨a1, a2, a3, a4⟩ := off (hacc.rng p hp).1
      exact hk' _ _ a1 a2 a3 a4 e
    rcases hz with ⟨hi0, hz, a, b, hTO⟩ | ⟨T, f, oT, hz, hT, _⟩
    · refine wpAny_bind (wpAny_pyNext_zipD2_end (i := i) S D1 D2 hz hTI hTO h1 h2 (by omega) (by omega) hin fun h' tk hk' => ?_)
      exact wpAny_pure (fin h' tk hk')
    · refine wpAny_bind (py_end (i := i) S D1 D2 hz hT hTI h1 h2 (by omega) (by omega) hin fun h' tk hk' => ?_)
      exact wpAny_pure (fin h' tk fun c o c1 _ c3 c4 e => hk' c o c1 c3 c4 e)
  | succ k ih =>
    intro i s acc c as hk hi hz h1 h2 hL hacc hB hR
    refine codeAny_builtin F.entry_extend_loop ?_
    rw [Around.under_plainId F.plain_extend_loop _]
    show wpAny _ A.in1 (pyNext (.ref z) >>= _) _ _ s
    obtain ⟨hTI, hz⟩ := hz
    have hsz0 : acc.size = i := by
      have := congrArg List.length hacc.acc
      rw [List.length_map, hacc.len] at this
      simpa using this
    have Llt : L < s.heap.objs.size := Heap.lt_size hL
    -- behind the item
    have go : ∀ (x1 x2 : Value) (h' : Heap) (tk : Nat), P1 i x1 → P2 i x2 → (∃ T f oT, IsZipHeld h' z TI TO T f ∧ h'.get? T = some oT ∧ T ≠ z ∧ T ≠ TO ∧ T ≠ i1 ∧ T ≠ i2 ∧ T ≠ L) → St1 (i + 1) h' → St2 (i + 1) h' → IsTupOf2 h' s.heap.objs.size x1 x2 → h'.objs.size = s.heap.objs.size + 1 →
        (∀ c o, c ≠ z → c ≠ TO → c ≠ i1 → c ≠ i2 → s.heap.get? c = some o → h'.get? c = some o) →
        wpAny (model prog w) A.in1 (updateSeq L (·.push (Value.ref s.heap.objs.size)) >>= fun _ => again (.builtin "list.extend.loop" ⟨[.ref L, .ref z, res], []⟩))
          (fun fin s' => match fin with | .done f => R (.ok f) s' | .again c' => c'.quiet = true ∧ codeAny (model prog w) A c' R s') (fun e s' => R (.error e) s') { s with heap := h', toks := tk } := by
      intro x1 x2 h' tk p1 p2 hzz g1 g2 hT hsz hk'
      have hL' := hk' _ _ hLz hLTO hLi1 hLi2 hL
      refine wpAny_bind ?_
      have up : ∀ b o, b ≠ L → h'.get? b = some o → (h'.update L (Obj.mapSeq (·.push (Value.ref s.heap.objs.size)))).get? b = some o := fun b o hb e => (Heap.get?_update_other _ _ (Ne.symm hb)).trans e
      have a1 : Prs P1 P2 B (h'.update L (Obj.mapSeq (·.push (Value.ref s.heap.objs.size)))) L acc as i := hacc.keep fun p hp o e => by
        obtain ⟨b1, b2, b3⟩ := hacc.rng p hp
        obtain ⟨c1, c2, c3, c4⟩ := off b1
        exact up _ _ b3 (hk' _ _ c1 c2 c3 c4 e)
      have hTn : IsTupOf2 (h'.update L (Obj.mapSeq (·.push (Value.ref s.heap.objs.size)))) s.heap.objs.size x1 x2 := up _ _ (Nat.ne_of_gt Llt) hT
      refine wpAny_updateSeq (s := { s with heap := h', toks := tk }) hL' rfl (wpAny_pure ⟨plainId_quiet F.plain_extend_loop _, ih (i + 1) _ (acc.push (Value.ref s.heap.objs.size)) _ (as ++ [s.heap.objs.size]) (by omega) (by omega) ⟨?_, .inr ?_⟩ ?_ ?_ (Heap.get?_update_self _ hL' rfl) ⟨?_, ?_, fun j p hj => ?_, fun p hp => ?_, ?_⟩ ?_ fun h'' tk' acc' c' as' hk'' hL'' hacc' => ?_⟩) (by rw [hsz0]; omega) (by show (acc.push _).size ≤ sizeLine + 1; rw [Array.size_push, hsz0]; omega)
      · exact up _ _ hLTI.symm (hk' _ _ S.TIz S.TITO S.TIi1 S.TIi2 hTI)
      · obtain ⟨T, f, oT, q1, q2, q3, q4, q5, q6, q7⟩ := hzz
        exact ⟨T, f, oT, up _ _ hLz.symm q1, up _ _ q7 q2, q3, q4, q5, q6, q7⟩
      · exact D1.frame _ _ _ g1 fun b hb o e => up b o (fun q => hL1 (q ▸ hb)) e
      · exact D2.frame _ _ _ g2 fun b hb o e => up b o (fun q => hL2 (q ▸ hb)) e
      · rw [Array.toList_push, hacc.acc, List.map_append]; rfl
      · rw [List.length_append, hacc.len]; rfl
      · by_cases e : j < as.length
        · rw [List.getElem?_append_left e] at hj
          exact a1.at' j p hj
        · rw [List.getElem?_append_right (by omega)] at hj
          have e0 : j - as.length = 0 := by
            have := (List.getElem?_eq_some_iff.mp hj).1
            simp at this; omega
          rw [e0] at hj
          cases hj
          have e1 : j = i := by have := hacc.len; omega
          subst e1
          exact ⟨x1, x2, p1, p2, hTn⟩
      · rcases List.mem_append.mp hp with q | q
        · exact a1.rng p q
        · have e1 : p = s.heap.objs.size := by simpa using q
          rw [e1]
          exact ⟨hB, Heap.lt_size hTn, Nat.ne_of_gt Llt⟩
      · refine List.nodup_append.mpr ⟨hacc.nd, by simp, fun a ha b hb => ?_⟩
        have e1 : b = s.heap.objs.size := by simpa using hb
        rw [e1]
        exact Nat.ne_of_lt (hacc.rng a ha).2.1
      · show B ≤ (h'.update L _).objs.size
        rw [(Heap.SameBut.update h' L _).1, hsz]; exact Nat.le_succ_of_le hB
      · exact hR h'' tk' acc' c' as' (fun b o b0 b1 b2 b3 b4 e => hk'' b o b0 b1 b2 b3 b4 (up b o b0 (hk' b o b1 b2 b3 b4 e))) hL'' hacc'
    rcases hz with ⟨hi0, hz, a, b, hTO⟩ | ⟨T, f, oT, hz, hT, t1, t2, t3, t4, t5⟩
    · refine wpAny_bind (wpAny_pyNext_zipD2_item (i := i) S D1 D2 hz hTI hTO h1 h2 (by omega) (by omega) fun x1 x2 h' tk y1 y2 z' TO' h1' h2' hT hsz hk' => ?_)
      obtain ⟨c1, c2, c3, c4⟩ := off hB
      exact go x1 x2 h' tk y1 y2 ⟨_, false, _, z', hT, c1, c2, c3, c4, Nat.ne_of_gt Llt⟩ h1' h2' hT hsz hk'
    · refine wpAny_bind (py_item (i := i) S D1 D2 hz hT hTI h1 h2 (by omega) (by omega) fun x1 x2 h' tk y1 y2 z' h1' h2' hT' hsz hk' => ?_)
      exact go x1 x2 h' tk y1 y2 ⟨T, true, oT, z', hk' _ _ t1 t3 t4 hT, t1, t2, t3, t4, t5⟩ h1' h2' hT' hsz fun c o c1 _ c3 c4 e => hk' c o c1 c3 c4 e
theorem extend (B : Nat) (S : ZipSep2 z TI TO i1 i2 fp1 fp2) (D1 : Draws prog w A.in1.in1 i1 fp1 n1 P1 St1) (D2 : Draws prog w A.in1.in1 i2 fp2 n2 P2 St2) (L : Addr) (c₀ : Nat) (hLz : L ≠ z) (hLTI : L ≠ TI) (hLTO : L ≠ TO) (hL1 : L ∉ fp1) (hL2 : L ∉ fp2) (hn : min n1 n2 ≤ sizeLine) (hBz : z < B) (hBT : TO < B) (hB1 : i1 < B) (hB2 : i2 < B) (res : Value) {s : Shared} {a b : Value}
    (hz : IsZip s.heap z TI TO .none) (hTI : IsTupOf2 s.heap TI (.ref i1) (.ref i2)) (hTO : IsTupOf2 s.heap TO a b) (h1 : St1 0 s.heap) (h2 : St2 0 s.heap) (hL : s.heap.get? L = some { cls := .type "list", data := .seq #[] c₀ }) (hB : B ≤ s.heap.objs.size)
    (hR : After P1 P2 B R res z TO i1 i2 L (min n1 n2) s) :
    wpAny (model prog w) A.in1 (Builtin.List.listExtendWith (.ref L) (.ref z) res)
      (fun fin s' => match fin with | .done f => R (.ok f) s' | .again c' => c'.quiet = true ∧ codeAny (model prog w) A c' R s') (fun e s' => R (.error e) s') s := by
  have hT : s.TypeIs (.ref z) "zip" := ⟨_, hz, rfl⟩
  unfold Builtin.List.listExtendWith
  refine wpAny_bind (wpAny_typeOf hT ?_)
  have g1 : Builtin.List.listSameRef (.ref L) (.ref z) = false := by simp [Builtin.List.listSameRef, hLz]
  have g2 : (Value.type "zip" == Value.type "list") = false := by decide
  have g3 : (Value.type "zip" == Value.type "tuple") = false := by decide
  simp only [g1, g2, g3, Bool.or_false, Bool.false_eq_true, if_false]
  refine wpAny_bind (wpAny_pyIter_zip hz ?_)
  refine wpAny_bind (wpAny_holding ?_)
  unfold Builtin.List.listLengthHint
  refine wpAny_bind (wpAny_specialOf hT zip_no_len ?_)
  show wpAny _ A.in1 (specialOf (Value.ref z) (Str.ofString "__length_hint__") >>= _) _ _ _
  refine wpAny_bind (wpAny_specialOf hT zip_no_hint ?_)
  refine wpAny_pure ?_
  show wpAny _ A.in1 (rule "list.extend.makes-room" >>= fun _ => Builtin.List.listTouch (.ref L) >>= fun _ =>
    again (.builtin "list.extend.loop" ⟨[.ref L, .ref z, res], []⟩)) _ _ _
  refine wpAny_bind (wpAny_rule ?_)
  refine wpAny_bind ?_
  show wpAny _ A.in1 (updateSeq L (·.push .none) >>= fun _ => updateSeq L (·.pop)) _ _ _
  refine wpAny_bind (wpAny_updateSeq hL rfl ?_)
  have hL₂ := Heap.get?_update_self (Obj.mapSeq (·.push Value.none)) hL rfl
  refine wpAny_updateSeq (hz := by seq_fits) hL₂ rfl ?_
  have hL₃ := Heap.get?_update_self (Obj.mapSeq (·.pop)) hL₂ rfl
  have oth : ∀ b o, b ≠ L → s.heap.get? b = some o → ((s.heap.update L (Obj.mapSeq (·.push Value.none))).update L (Obj.mapSeq (·.pop))).get? b = some o :=
    fun b o hb e => (Heap.get?_update_other _ _ (Ne.symm hb)).trans ((Heap.get?_update_other _ _ (Ne.symm hb)).trans e)
  have szE : ((s.heap.update L (Obj.mapSeq (·.push Value.none))).update L (Obj.mapSeq (·.pop))).objs.size = s.heap.objs.size := by
    rw [(Heap.SameBut.update _ L _).1, (Heap.SameBut.update _ L _).1]
  refine wpAny_pure ⟨plainId_quiet F.plain_extend_loop _, loop B S D1 D2 L hLz hLTI hLTO hL1 hL2 hn hBz hBT hB1 hB2 res _ 0 _ _ _ [] rfl (Nat.zero_le _) ⟨oth _ _ hLTI.symm hTI, .inl ⟨rfl, oth _ _ hLz.symm hz, a, b, oth _ _ hLTO.symm hTO⟩⟩ ?_ ?_ hL₃ ⟨rfl, rfl, fun j p hj => by simp at hj, fun p hp => (by cases hp), List.nodup_nil⟩ ?_ fun h' tk acc' c' as hk' hL' hacc => ?_⟩
  · exact D1.frame _ _ _ h1 fun b hb o e => oth b o (fun q => hL1 (q ▸ hb)) e
  · exact D2.frame _ _ _ h2 fun b hb o e => oth b o (fun q => hL2 (q ▸ hb)) e
  · show B ≤ Array.size _
    rw [szE]; exact hB
  · exact hR h' tk acc' c' as (fun b o b0 b1 b2 b3 b4 e => hk' b o b0 b1 b2 b3 b4 (oth b o b0 e)) hL' hacc
theorem init (B : Nat) (S : ZipSep2 z TI TO i1 i2 fp1 fp2) (D1 : Draws prog w A.in1.in1 i1 fp1 n1 P1 St1) (D2 : Draws prog w A.in1.in1 i2 fp2 n2 P2 St2) (L : Addr) (hLz : L ≠ z) (hLTI : L ≠ TI) (hLTO : L ≠ TO) (hL1 : L ∉ fp1) (hL2 : L ∉ fp2) (hn : min n1 n2 ≤ sizeLine) (hBz : z < B) (hBT : TO < B) (hB1 : i1 < B) (hB2 : i2 < B) {s : Shared} {a b : Value}
    (hz : IsZip s.heap z TI TO .none) (hTI : IsTupOf2 s.heap TI (.ref i1) (.ref i2)) (hTO : IsTupOf2 s.heap TO a b) (h1 : St1 0 s.heap) (h2 : St2 0 s.heap) (hL : s.heap.get? L = some { cls := .type "list", data := .seq #[] }) (hB : B ≤ s.heap.objs.size)
    (hR : After P1 P2 B R .none z TO i1 i2 L (min n1 n2) s) :
    wpAny (model prog w) A.in1 (Builtin.«list.__init__» ⟨[.ref L, .ref z], []⟩)
      (fun fin s' => match fin with | .done f => R (.ok f) s' | .again c' => c'.quiet = true ∧ codeAny (model prog w) A c' R s') (fun e s' => R (.error e) s') s := by
  show wpAny _ _ (do let old ← Builtin.List.listItems (.ref L); Builtin.List.listUpdate (.ref L) (fun _ => #[]); letGo old.toList.reverse; Builtin.List.listExtendWith (.ref L) (.ref z) .none) _ _ s
  refine wpAny_bind ?_
  unfold Builtin.List.listItems
  refine wpAny_bind (wpAny_seqItems hL rfl (wpAny_pure ?_))
  show wpAny _ _ (updateSeq L (fun _ => #[]) >>= fun _ => letGo (#[] : Array Value).toList.reverse >>= fun _ => Builtin.List.listExtendWith (.ref L) (.ref z) .none) _ _ s
  refine wpAny_bind (wpAny_updateSeq hL rfl ?_)
  have hL₂ := Heap.get?_update_self (Obj.mapSeq (fun _ => (#[] : Array Value))) hL rfl
  have oth : ∀ b o, b ≠ L → s.heap.get? b = some o → (s.heap.update L (Obj.mapSeq (fun _ => (#[] : Array Value)))).get? b = some o :=
    fun b o hb e => (Heap.get?_update_other _ _ (Ne.symm hb)).trans e
  refine wpAny_bind (wpAny_letGo ?_)
  refine extend B S D1 D2 L _ hLz hLTI hLTO hL1 hL2 hn hBz hBT hB1 hB2 .none (oth _ _ hLz.symm hz) (oth _ _ hLTI.symm hTI) (oth _ _ hLTO.symm hTO) ?_ ?_ hL₂ ?_ fun h' tk acc' c' as hk hL' hacc => ?_
  · exact D1.frame _ _ _ h1 fun b hb o e => oth b o (fun q => hL1 (q ▸ hb)) e
  · exact D2.frame _ _ _ h2 fun b hb o e => oth b o (fun q => hL2 (q ▸ hb)) e
  · show B ≤ Array.size _
    rw [(Heap.SameBut.update _ L _).1]; exact hB
  · exact hR h' tk acc' c' as (fun b o b0 b1 b2 b3 b4 e => hk b o b0 b1 b2 b3 b4 (oth b o b0 e)) hL' hacc
/-- list(z): z a zip that nobody has drawn from -/
theorem call {E : Value → Shared → Prop} {Q : Value → Shared → Prop} (S : ZipSep2 z TI TO i1 i2 fp1 fp2) (D1 : Draws prog w A.in1.in1.in1 i1 fp1 n1 P1 St1) (D2 : Draws prog w A.in1.in1.in1 i2 fp2 n2 P2 St2) (hn : min n1 n2 ≤ sizeLine) {s : Shared} {a b : Value}
    (hz : IsZip s.heap z TI TO .none) (hTI : IsTupOf2 s.heap TI (.ref i1) (.ref i2)) (hTO : IsTupOf2 s.heap TO a b) (h1 : St1 0 s.heap) (h2 : St2 0 s.heap) (hf1 : ∀ c ∈ fp1, c < s.heap.objs.size) (hf2 : ∀ c ∈ fp2, c < s.heap.objs.size)
    (hQ : ∀ h' tk acc' c' as, (∀ b o, b ≠ z → b ≠ TO → b ≠ i1 → b ≠ i2 → s.heap.get? b = some o → h'.get? b = some o) → h'.get? s.heap.objs.size = some { cls := .type "list", dict := none, data := .seq acc' c', slots := #[] } → Prs P1 P2 s.heap.objs.size h' s.heap.objs.size acc' as (min n1 n2) → Q (.ref s.heap.objs.size) { s with heap := h', toks := tk }) :
    wpAny (model prog w) A (PySem.call (.type "list") [.ref z]) Q E s := by
  refine callType_codes (Q₁ := fun obj s₁ => obj = .ref s.heap.objs.size ∧ s₁ = { s with heap := s.heap.push { cls := .type "list", data := .seq #[] } }) F.called_list (F.typeCall_list_1 _) F.entry_list_init
    (code_list_new _ ⟨rfl, rfl⟩) fun obj s₁ h₁ => ?_
  obtain ⟨rfl, rfl⟩ := h₁
  have hS : (s.heap.push { cls := .type "list", data := .seq #[] }).get? s.heap.objs.size = some { cls := .type "list", data := .seq #[] } := Heap.get?_push_size _ rfl
  have up : ∀ b o, s.heap.get? b = some o → (s.heap.push { cls := .type "list", data := .seq #[] }).get? b = some o := fun b o e => Heap.get?_push_of_some _ e
  refine ⟨⟨_, hS, rfl⟩, F.args_list_init_2 _ _, init (A := A.in1) s.heap.objs.size S D1 D2 s.heap.objs.size (Nat.ne_of_gt (Heap.lt_size hz)) (Nat.ne_of_gt (Heap.lt_size hTI)) (Nat.ne_of_gt (Heap.lt_size hTO)) (fun q => Nat.lt_irrefl _ (hf1 _ q)) (fun q => Nat.lt_irrefl _ (hf2 _ q)) hn (Heap.lt_size hz) (Heap.lt_size hTO) (hf1 _ S.mem1) (hf2 _ S.mem2) (up _ _ hz) (up _ _ hTI) (up _ _ hTO)
    (D1.frame _ _ _ h1 fun b _ o e => up b o e) (D2.frame _ _ _ h2 fun b _ o e => up b o e) hS (by show s.heap.objs.size ≤ (s.heap.push _).objs.size; rw [Heap.size_push]; exact Nat.le_succ _) fun h' tk acc' c' as hk hS' hacc => ?_⟩
  exact ⟨rfl, hQ h' tk acc' c' as (fun b o b1 b2 b3 b4 e => hk b o (Nat.ne_of_lt (Heap.lt_size e)) b1 b2 b3 b4 (up b o e)) hS' hacc⟩
end
end LZ
/-- the tuples at their addresses -/
def putP : Hp → List Addr → List (V × V) → Hp
  | H, a :: as, p :: kvs => putP (upd H a (.tup [p.1, p.2])) as kvs
  | H, _, _ => H
theorem putP_off {b : Addr} : ∀ (as : List Addr) (kvs : List (V × V)) (H : Hp), b ∉ as → putP H as kvs b = H b
  | [], _, _, _ => rfl
  | _ :: _, [], _, _ => rfl
  | a :: as, p :: kvs, H, h => by
    show putP (upd H a (.tup [p.1, p.2])) as kvs b = H b
    rw [putP_off as kvs _ (fun z => h (List.mem_cons_of_mem _ z)), upd_ne (fun z => h (by rw [z]; exact List.mem_cons_self))]
theorem putP_at : ∀ (as : List Addr) (kvs : List (V × V)) (H : Hp) (j : Nat) (t : Addr) (p : V × V), as.Nodup → as[j]? = some t → kvs[j]? = some p → putP H as kvs t = some (.tup [p.1, p.2])
  | [], _, _, j, t, p, _, h, _ => by simp at h
  | _ :: _, [], _, j, t, p, _, _, h => by simp at h
  | a :: as, q :: kvs, H, 0, t, p, hn, h, h' => by
    simp only [List.getElem?_cons_zero, Option.some.injEq] at h h'
    subst h h'
    show putP (upd H a (.tup [q.1, q.2])) as kvs a = _
    rw [putP_off as kvs _ (List.nodup_cons.mp hn).1, upd_same]
  | a :: as, q :: kvs, H, j + 1, t, p, hn, h, h' => putP_at as kvs (upd H a (.tup [q.1, q.2])) j t p (List.nodup_cons.mp hn).2 (by simpa using h) (by simpa using h')
section
variable {X : Cx}
theorem pairs_laid {pins : List (Addr × Obj)} {σ : L2.St} {H : Hp} {s : Shared} {h' : Heap} {tk : Nat} {L : Addr} {kvs : List (V × V)} {us vs : List Value} {acc : Array Value} {c : Nat} {as : List Addr} (I : Inv X pins σ H s) (hl : as.length = kvs.length) (hz : kvs.length ≤ sizeLine)
    (hk : ∀ b o, s.heap.get? b = some o → h'.get? b = some o) (hLn : s.heap.objs.size ≤ L) (hS : h'.get? L = some { cls := .type "list", dict := none, data := .seq acc c, slots := #[] }) (hacc : acc.toList = as.map Value.ref) (hn : as.Nodup) (hr : ∀ p ∈ as, s.heap.objs.size ≤ p ∧ p ≠ L)
    (hat : ∀ (j : Nat) (t : Addr) (p : V × V), as[j]? = some t → kvs[j]? = some p → ∃ x1 x2, RelV p.1 x1 ∧ RelV p.2 x2 ∧ IsTupOf2 h' t x1 x2) :
    Inv X pins σ (putP (upd H L (.lst (as.map V.ref))) as kvs) { s with heap := h', toks := tk } ∧ (∀ b u, H b = some u → (putP (upd H L (.lst (as.map V.ref))) as kvs) b = some u) ∧ H L = none ∧ (∀ t ∈ as, H t = none) ∧ putP (upd H L (.lst (as.map V.ref))) as kvs L = some (.lst (as.map V.ref)) := by
  have hSn : L ∉ as := fun z => (hr _ z).2 rfl
  have new : ∀ t ∈ as, H t = none := fun t ht => I.hok.fresh (hr t ht).1
  have newS : H L = none := I.hok.fresh hLn
  have off : ∀ b, b ∉ as → b ≠ L → putP (upd H L (.lst (as.map V.ref))) as kvs b = H b := fun b h1 h2 => by rw [putP_off as kvs _ h1, upd_ne h2]
  have low : ∀ b o, s.heap.get? b = some o → b ∉ as ∧ b ≠ L := fun b o e => ⟨fun z => absurd (Heap.lt_size e) (Nat.not_lt.mpr (hr b z).1), fun z => absurd (Heap.lt_size e) (Nat.not_lt.mpr (z ▸ hLn))⟩
  have kp : ∀ b u, H b = some u → (putP (upd H L (.lst (as.map V.ref))) as kvs) b = some u := fun b u e => by
    rw [off b (fun z => by rw [new b z] at e; cases e) (fun z => by rw [z, newS] at e; cases e)]
    exact e
  have eS : putP (upd H L (.lst (as.map V.ref))) as kvs L = some (.lst (as.map V.ref)) := by rw [putP_off as kvs _ hSn, upd_same]
  refine ⟨I.call' (ch := []) rfl ⟨fun b o q _ _ _ => hk b o q, fun b o q _ _ _ => ⟨o.slots, hk b o q⟩, fun b o q n _ => ?_, fun b o q _ => ⟨o, hk b o q⟩, fun b xs q => kp b _ q, fun b o u q => kp b _ q, fun b ps q => ⟨#[], by rw [kp b _ q]; simp⟩⟩ (fun b u q => ?_) I.bare fun b z => by simp at z, kp, newS, new, eS⟩
  · obtain ⟨z1, z2⟩ := low b o q
    rw [off b z1 z2]
    exact n
  · by_cases hb : b ∈ as
    · obtain ⟨j, hj⟩ := List.getElem?_of_mem hb
      have hjl := (List.getElem?_eq_some_iff.mp hj).1
      have hkj : kvs[j]? = some kvs[j] := List.getElem?_eq_getElem (by omega)
      rw [putP_at as kvs _ j b _ hn hj hkj] at q
      cases q
      obtain ⟨x1, x2, f1, f2, f3⟩ := hat j b _ hj hkj
      exact ⟨by show 2 ≤ sizeLine; decide, [x1, x2], .cons f1 (.cons f2 .nil), ⟨_, f3, rfl, _, rfl⟩⟩
    · by_cases hb2 : b = L
      · rw [hb2] at q ⊢
        rw [eS] at q
        cases q
        refine ⟨by rw [List.length_map]; omega, acc.toList, c, by rw [hacc]; exact LiI.vals_refs as, ?_⟩
        rw [Array.toArray_toList]
        exact hS
      · rw [off b hb hb2] at q
        exact (I.hok b u q).stay (fun d v _ y => hk d v y) (fun d y => kp d _ y) fun d xs y => kp d _ y
def zipV : List V → List V → List (V × V)
  | x :: xs, y :: ys => (x, y) :: zipV xs ys
  | _, _ => []
theorem zipV_get : ∀ {xs ys : List V} {j : Nat} {p : V × V}, (zipV xs ys)[j]? = some p → xs[j]? = some p.1 ∧ ys[j]? = some p.2
  | [], _, j, p, h => by simp [zipV] at h
  | _ :: _, [], j, p, h => by simp [zipV] at h
  | x :: xs, y :: ys, 0, p, h => by simp [zipV] at h; subst h; exact ⟨rfl, rfl⟩
  | x :: xs, y :: ys, j + 1, p, h => by simpa using zipV_get (xs := xs) (ys := ys) (by simpa [zipV] using h)
theorem zipV_len : ∀ {xs ys : List V}, (zipV xs ys).length = min xs.length ys.length
  | [], _ => by simp [zipV]
  | _ :: _, [] => by simp [zipV]
  | x :: xs, y :: ys => by simp [zipV, zipV_len (xs := xs) (ys := ys)]
theorem sqB_at {t : Bool} {h h' : Heap} {l : Addr} {items : Array Value} (x : sqB t h l items) (k : ∀ b o, h.get? b = some o → h'.get? b = some o) : sqB t h' l items := by
  cases t
  · exact Heap.IsList.at x fun o e => k _ o e
  · exact Heap.IsTuple.at x fun o e => k _ o e
/-- list(zip(a, b)) -/
def tLz (K : PySem.W.Frag) (ta : TA) : TE := fun σ H Q => ta σ H fun vs H1 => ∃ t u a b xs ys, vs = [.ref a, .ref b] ∧ SqB t K H1 a xs ∧ SqB u K H1 b ys ∧ min xs.length ys.length ≤ sizeLine ∧
  ∀ (H' : Hp) (L : Addr) (as : List Addr), as.length = min xs.length ys.length → as.Nodup → H' = putP (upd H1 L (.lst (as.map V.ref))) as (zipV xs ys) → H1 L = none → (∀ t ∈ as, H1 t = none) → L ∉ as → Q (.ref L) H'
theorem pe_listZip {e e2 : Expr} {ta : TA} {p p2 pos zpos : Pos} (hc : X.calm = true) (hg : Gl X "list") (hm : X.mg "list" = none) (hv : bootBuiltins "list" = some (.type "list")) (hg2 : Gl X "zip") (hm2 : X.mg "zip" = none) (ha : PA X [e, e2] ta)
    (hs : starEach [.Call (.Name "zip" p2) [e, e2] [] zpos] X.env = (false, eval (.Call (.Name "zip" p2) [e, e2] [] zpos) X.env) :: starEach [] X.env := by rfl)
    (hs2 : starEach [e, e2] X.env = (false, eval e X.env) :: starEach [e2] X.env := by rfl) (hpl : (backTo zpos (starEach [e2] X.env)).any (·.1) = false := by rfl) :
    PE X (.Call (.Name "list" p) [.Call (.Name "zip" p2) [e, e2] [] zpos] [] pos) (tLz X.K ta) := by
  refine ⟨fun pins s σ H Q I h => ?_⟩
  refine wpAny_Call_Name_kw (ld_blt I hg hm hv ?_)
  refine PyProof.Rows.callWith_type1 ?_ hs rfl
  rw [hs]
  show wpAny _ _ (spliced ((false, eval (.Call (.Name "zip" p2) [e, e2] [] zpos) X.env) :: backTo pos (starEach [] X.env))) _ _ s
  refine Calls.spliced_cons ?_
  refine Call_ (ld_blt I hg2 hm2 PyProof.Rows.boot_zip (PyProof.Rows.callWith_type1 (thn (ha.run zpos pins s σ H _ I h) fun us s1 ⟨vs, H1, I1, r1, q1⟩ => ?_) hs2 hpl))
  obtain ⟨t, u, a, b, xs, ys, ex, hqx, hqy, hmin, q⟩ := q1
  subst ex
  cases r1 with
  | cons r rr =>
    cases rr with
    | cons r' rr =>
      cases rr
      cases r
      cases r'
      obtain ⟨its, rv, p1, l1⟩ := hqx.items I1
      obtain ⟨its2, rv2, p2', l2⟩ := hqy.items I1
      obtain ⟨o1, B1, b1⟩ := begB t a its.toArray
      obtain ⟨o2, B2, b2⟩ := begB u b its2.toArray
      refine zip_begins2 B1 B2 p1 p2' fun h' hz hTI hTO h1 h2 hsz hk => ?_
      refine Calls.spliced_nil ?_
      have I2 : Inv X pins σ H1 { s1 with heap := h' } := I1.kept (t' := s1.toks) hk
      have q1 : ∀ k, s1.heap.objs.size + k ≠ a := fun k => Nat.ne_of_gt (Nat.lt_of_lt_of_le l1 (Nat.le_add_right _ _))
      have q2 : ∀ k, s1.heap.objs.size + k ≠ b := fun k => Nat.ne_of_gt (Nat.lt_of_lt_of_le l2 (Nat.le_add_right _ _))
      have q3 := q1 0
      have q4 := q2 0
      rw [Nat.add_zero] at q3 q4
      have S2 : ZipSep2 (s1.heap.objs.size + 4) (s1.heap.objs.size + 2) (s1.heap.objs.size + 3) s1.heap.objs.size (s1.heap.objs.size + 1) [s1.heap.objs.size, a] [s1.heap.objs.size + 1, b] := by
        refine ⟨?_, ?_, ?_, ?_, ?_, ?_, ?_, ?_, ?_, ?_, ?_, ?_, ?_⟩
        all_goals (simp [q1, q2, q3, q4])
      have hlt : ∀ k, k < 5 → s1.heap.objs.size + k < h'.objs.size := fun k hk' => by
        have z4 := Heap.lt_size hz
        omega
      have ex1 : its.toArray.size = xs.length := by rw [rv.length]; simp
      have ex2 : its2.toArray.size = ys.length := by rw [rv2.length]; simp
      refine LZ.call (s := { s1 with heap := h' }) S2 (drawsB t (A := X.A.in1.in1.in1) (I1.ok.hd hc) s1.heap.objs.size a (Nat.ne_of_lt l1) its.toArray) (drawsB u (A := X.A.in1.in1.in1) (I1.ok.hd hc) (s1.heap.objs.size + 1) b (Nat.ne_of_lt (Nat.lt_succ_of_lt l2)) its2.toArray) (by rw [ex1, ex2]; exact hmin) hz hTI hTO ⟨b1 _ _ h1, ?_⟩ ⟨b2 _ _ h2, ?_⟩ ?_ ?_ fun h'' tk acc' c' as hk2 hL hP => ?_
      · exact sqB_at p1 hk
      · exact sqB_at p2' hk
      · intro c hc'
        rcases List.mem_cons.mp hc' with z | z
        · rw [z]; exact hlt 0 (by omega)
        · have : c = a := by simpa using z
          rw [this]; exact Nat.lt_trans l1 (hlt 0 (by omega))
      · intro c hc'
        rcases List.mem_cons.mp hc' with z | z
        · rw [z]; exact hlt 1 (by omega)
        · have : c = b := by simpa using z
          rw [this]; exact Nat.lt_trans l2 (hlt 0 (by omega))
      · rw [ex1, ex2] at hP
        have hlz : as.length = (zipV xs ys).length := by rw [hP.len, zipV_len]
        have keep2 : ∀ c o, s1.heap.get? c = some o → h''.get? c = some o := fun c o e => by
          have z := Heap.lt_size e
          exact hk2 c o (Nat.ne_of_lt (Nat.lt_of_lt_of_le z (Nat.le_add_right _ _))) (Nat.ne_of_lt (Nat.lt_of_lt_of_le z (Nat.le_add_right _ _))) (Nat.ne_of_lt z) (Nat.ne_of_lt (Nat.lt_of_lt_of_le z (Nat.le_add_right _ _))) (hk c o e)
        have hLs : s1.heap.objs.size ≤ h'.objs.size := Nat.le_of_lt (hlt 0 (by omega))
        obtain ⟨J, _, z2, z3, _⟩ := pairs_laid (X := X) (h' := h'') (tk := tk) (L := h'.objs.size) (kvs := zipV xs ys) (us := []) (vs := []) I1 hlz (by rw [zipV_len]; exact hmin) keep2 hLs hL hP.acc hP.nd (fun p hp => ⟨Nat.le_trans hLs (hP.rng p hp).1, (hP.rng p hp).2.2⟩) (fun j t pr hj hkj => by
          obtain ⟨x1, x2, y1, y2, y3⟩ := hP.at' j t hj
          obtain ⟨w1, w2⟩ := zipV_get hkj
          obtain ⟨v1, hu1, ru1⟩ := rv.get w1
          obtain ⟨v2, hu2, ru2⟩ := rv2.get w2
          have e1 : v1 = x1 := by
            have q : its[j]? = some x1 := by simpa using y1
            rw [hu1] at q; exact Option.some.inj q
          have e2 : v2 = x2 := by
            have q : its2[j]? = some x2 := by simpa using y2
            rw [hu2] at q; exact Option.some.inj q
          subst e1 e2
          exact ⟨v1, v2, ru1, ru2, y3⟩)
        exact ⟨.ref h'.objs.size, _, J, rfl, q _ _ as hP.len hP.nd rfl z2 z3 fun z => (hP.rng _ z).2.2 rfl⟩
end
end Mir

/-! Mir24: list(zip(a, b)), dict(pairs), list.index, tuples with cells that are handed back: by data. -/
namespace Mir
open PySem PySem.Spec PyProof.Rows L2 RZ
theorem putP_ext {G : Gc} {m : List Addr} : ∀ (as : List Addr) (kvs : List (V × V)) (H : Hp), as.Nodup → (∀ t ∈ as, H t = none) → Ext G m H m (putP H as kvs)
  | [], _, _, _, _ => Ext.refl
  | _ :: _, [], _, _, _ => Ext.refl
  | a :: as, p :: kvs, H, hn, hf => (Ext.new (hf a List.mem_cons_self)).trans (putP_ext as kvs (upd H a (.tup [p.1, p.2])) (List.nodup_cons.mp hn).2 fun t ht => by
      rw [upd_ne (show t ≠ a from fun z => (List.nodup_cons.mp hn).1 (z ▸ ht))]
      exact hf t (List.mem_cons_of_mem _ ht))
theorem pairs_rvs {G : Gc} {e : List Addr} {H : Hp} : ∀ {ds es : List D} {xs ys : List V} {as : List Addr}, RVs G e H ds xs → RVs G e H es ys → as.length = (zipV xs ys).length → (∀ (j : Nat) (t : Addr) (p : V × V), as[j]? = some t → (zipV xs ys)[j]? = some p → H t = some (.tup [p.1, p.2])) → RVs G e H (pairs ds es) (as.map V.ref)
  | [], es, [], ys, as, .nil, _, hl, _ => by
    have : as = [] := by
      cases as with
      | nil => rfl
      | cons _ _ => simp [zipV] at hl
    subst this
    show RVs G e H (pairs [] es) []
    cases es <;> exact .nil
  | d :: ds, [], _, _, as, .cons r t, .nil, hl, _ => by
    have : as = [] := by
      cases as with
      | nil => rfl
      | cons _ _ => simp [zipV] at hl
    subst this
    simp only [pairs, List.map_nil]
    exact .nil
  | d :: ds, e1 :: es, _, _, as, .cons r t, .cons r' t', hl, h => by
    cases as with
    | nil => simp [zipV] at hl
    | cons a as =>
      refine .cons (.tup (.inl (.inl (h 0 a _ rfl rfl))) (.cons r (.cons r' .nil))) (pairs_rvs t t' (by simpa [zipV] using hl) fun j u p h1 h2 => h (j + 1) u p (by simpa using h1) (by simpa [zipV] using h2))
def lzpM (f g : ME) : ME := fun ρ S => (argsM [f, g] ρ S).bind fun us S1 => match us with
  | [u, v] => match seqU u, seqU v with
    | some xs, some ys => if (pairs xs ys).length ≤ big then .ok (.d (.lst (pairs xs ys))) S1 else .un
    | _, _ => .un
  | _ => .un
theorem pairs_len : ∀ {ds es : List D}, (pairs ds es).length = min ds.length es.length
  | [], _ => by simp [pairs]
  | _ :: _, [] => by simp [pairs]
  | _ :: ds, _ :: es => by simp [pairs, pairs_len (ds := ds) (es := es)]
section
variable {X : Cx} {T : List (Addr × Str)} {W : WX} {e e2 : Expr} {f g : ME} {p p2 pos zpos : Pos}
theorem e_lzip (hc : X.calm = true) (hm : X.mg "list" = none) (hv : bootBuiltins "list" = some (.type "list")) (hm2 : X.mg "zip" = none) (ha : PA X [e, e2] (tA (gOf X T) W (argsM [f, g]))) (hg : Gl X "list" := by rfl) (hg2 : Gl X "zip" := by rfl)
    (hs : starEach [.Call (.Name "zip" p2) [e, e2] [] zpos] X.env = (false, eval (.Call (.Name "zip" p2) [e, e2] [] zpos) X.env) :: starEach [] X.env := by rfl)
    (hs2 : starEach [e, e2] X.env = (false, eval e X.env) :: starEach [e2] X.env := by rfl) (hpl : (backTo zpos (starEach [e2] X.env)).any (·.1) = false := by rfl) :
    PE X (.Call (.Name "list" p) [.Call (.Name "zip" p2) [e, e2] [] zpos] [] pos) (tE (gOf X T) W (lzpM f g)) :=
  pe_mono (pe_listZip hc hg hm hv hg2 hm2 ha hs hs2 hpl) fun σ H Q h => by
    obtain ⟨x, m, ρ, S, p, h⟩ := h
    refine ⟨x, m, ρ, S, p, (Post.bind h).mono fun us S1 m1 H1 E1 R1 ⟨_, _, h1⟩ vs rvs => ?_⟩
    split at h1
    · split at h1
      · rename_i xs ys q1 q2
        split at h1
        · rename_i hlen
          cases rvs with
          | cons r t => cases t with
            | cons r' t =>
              cases t
              obtain ⟨t, a, zs, rfl, s1, s2⟩ := seqU_ok r q1
              obtain ⟨t', b, zs', rfl, s3, s4⟩ := seqU_ok r' q2
              rw [pairs_len] at hlen
              refine ⟨t, t', a, b, zs, zs', rfl, s1.b, s3.b, by rw [← s2.len, ← s4.len]; exact big_ok hlen, fun H' L as hl hn he fL fas nL => ?_⟩
              subst he
              have p1 := p.ext E1 R1
              have E2 : Ext (gOf X T) m1 H1 m1 (upd H1 L (.lst (as.map V.ref))) := Ext.new fL
              have E3 : Ext (gOf X T) m1 (upd H1 L (.lst (as.map V.ref))) m1 (putP (upd H1 L (.lst (as.map V.ref))) as (zipV zs zs')) := putP_ext as _ _ hn fun t ht => by
                rw [upd_ne (show t ≠ L from fun z => nL (z ▸ ht))]; exact fas t ht
              have E4 := E2.trans E3
              have live : ∀ a ∈ x ++ m1, a ∉ as ∧ a ≠ L := fun a ha => by
                obtain ⟨o, ho⟩ := p1.trk a ha
                exact ⟨fun z => (by rw [fas a z] at ho; cases ho), fun z => (by rw [z, fL] at ho; cases ho)⟩
              have R4 : RS (gOf X T) (x ++ m1) m1 (putP (upd H1 L (.lst (as.map V.ref))) as (zipV zs zs')) S1 := R1.stay E4 fun a ha => by
                obtain ⟨z1, z2⟩ := live a (List.mem_append_right _ ha)
                rw [putP_off as _ _ z1, upd_ne z2]
              refine h1 m1 _ E4 R4 _ (.d (.lst ?_ (fun z => (live L z).2 rfl) (pairs_rvs (s2.keep E4.kp) (s4.keep E4.kp) (by rw [hl, zipV_len]) fun j u p h1 h2 => putP_at as _ _ j u p hn h1 h2)))
              rw [putP_off as _ _ nL, upd_same]
        · exact h1.elim
      · exact h1.elim
    · exact h1.elim
/-! ### a tuple with cells that is handed back -/
def wOf : List U → Option (List (D ⊕ Nat))
  | [] => some []
  | .d x :: us => (wOf us).map (.inl x :: ·)
  | .c i :: us => (wOf us).map (.inr i :: ·)
  | .t _ :: _ => none
def tupC (fs : List ME) : ME := fun ρ S => (argsM fs ρ S).bind fun us S' => match wOf us with
  | some ws => .ok (.t ws) S'
  | none => .un
theorem wOf_ok {G : Gc} {e m : List Addr} {H : Hp} : ∀ {us : List U} {vs : List V} {ws : List (D ⊕ Nat)}, RUs G e m H us vs → wOf us = some ws → RW G e m H ws vs
  | _, _, _, .nil, h => by cases h; exact .nil
  | _, _, _, .cons (.d r) t, h => by
    simp only [wOf, Option.map_eq_some_iff] at h
    obtain ⟨ws, h1, rfl⟩ := h
    exact .d r (wOf_ok t h1)
  | _, _, _, .cons (.c r) t, h => by
    simp only [wOf, Option.map_eq_some_iff] at h
    obtain ⟨ws, h1, rfl⟩ := h
    exact .c r (wOf_ok t h1)
  | _, _, _, .cons (.t (us := us) _ _) t, h => by simp [wOf] at h
theorem e_tupC {k} {es : List Expr} {fs : List ME} (h : PA X es (tA (gOf X T) W (argsM fs))) (hl : Nat.ble fs.length 1000 = true := by rfl) : PE X (.Tuple es k pos) (tE (gOf X T) W (tupC fs)) := pe_mono (pe_tup h) fun σ H Q h => by
  obtain ⟨x, m, ρ, S, p, h⟩ := h
  cases q : argsM fs ρ S with
  | ok us S' =>
    refine ⟨x, m, ρ, S, p, ?_⟩
    rw [q]
    intro m1 H1 E1 R1 vs rvs
    have hn : vs.length = fs.length := by rw [← RUs.length rvs, argsM_len q]
    refine ⟨Nat.le_of_lt (small1000 (by rw [hn]; exact Nat.le_of_ble_eq_true hl)), fun p' np => ?_⟩
    simp only [tupC, q, O.bind] at h
    split at h
    · rename_i ds hd
      have E2 : Ext (gOf X T) m1 H1 m1 (upd H1 p' (.tup vs)) := Ext.new np
      exact h m1 _ (E1.trans E2) (R1.new np) _ (.t (.inl (.inl upd_same)) ((wOf_ok rvs hd).ext E2))
    · exact h.elim
  | ex e S' =>
    refine ⟨x, m, ρ, S, p, ?_⟩
    simp only [tupC, q, O.bind] at h ⊢
    exact h
  | un =>
    simp only [tupC, q, O.bind] at h
    exact h.elim
/-! ### xs.index(y), xs a list -/
def lixG : List D → D → Option D
  | [], _ => none
  | x :: xs, y => if eqD x y = true then some (.int 0) else match lixG xs y with
    | some (.int i) => some (.int (i + 1))
    | _ => none
theorem lixG_ok : ∀ {xs : List D} {y z : D}, lixG xs y = some z → ∃ (j : Nat) (w : D), z = .int j ∧ xs[j]? = some w ∧ eqD w y = true ∧ ∀ (m : Nat) (w' : D), m < j → xs[m]? = some w' → eqD w' y = false
  | [], _, _, h => by simp [lixG] at h
  | x :: xs, y, z, h => by
    unfold lixG at h
    split at h
    · rename_i e
      cases h
      exact ⟨0, x, rfl, rfl, e, fun m _ hm _ => by omega⟩
    · rename_i e
      split at h
      · rename_i i hi
        cases h
        obtain ⟨j, w, h1, h2, h3, h4⟩ := lixG_ok hi
        cases h1
        refine ⟨j + 1, w, by simp, by simpa using h2, h3, fun m w' hm hw => ?_⟩
        cases m with
        | zero => simp at hw; subst hw; exact Bool.eq_false_iff.mpr e
        | succ m => exact h4 m w' (by omega) (by simpa using hw)
      · cases h
def isLsU (S : Sto) : U → Bool
  | .d (.lst _) => true
  | .c i => isLst S[i]?
  | _ => false
def lixM (fo fe : ME) : ME := fun ρ S => (fo ρ S).bind fun uo S1 => if isLsU S1 uo = true then (fe ρ S1).bind fun ue S2 => match rd S2 uo, rd S2 ue with
  | some (.lst xs), some y => if sh (.lst xs) && sh y then match lixG xs y with
    | some z => .ok (.d z) S2
    | none => .un
    else .un
  | _, _ => .un
  else .un
theorem Ps_get : ∀ {xs : List D} {j : Nat}, (Ps xs)[j]? = xs[j]?.map D.P
  | [], j => by simp [Ps]
  | x :: xs, 0 => by simp [Ps]
  | x :: xs, j + 1 => by simpa [Ps] using Ps_get (xs := xs) (j := j)
theorem e_lix {o e : Expr} {fo fv : ME} {apos p2 : Pos} (hu : X.A.units + 65 < cLine) (ho : PE X o (tE (gOf X T) W fo)) (he : PE X e (tE (gOf X T) W fv)) (hbase : attributeBase o "index" X.env (eval o X.env) = eval o X.env := by rfl)
    (hfew : ((backTo p2 (starEach [e] X.env)).all (fun x => !x.1) && (backToKw p2 (keywordEach [] X.env)).all (fun x => x.1.isSome)
      && decide ([e].length + ([] : List Keyword).length + (if ([] : List Keyword).isEmpty then 0 else 1) < 30)) = true := by rfl)
    (hline : (apos.endLine == p2.line) = true := by rfl) (hs : starEach [e] X.env = (false, eval e X.env) :: starEach [] X.env := by rfl) (hpl : (backTo p2 (starEach [] X.env)).any (·.1) = false := by rfl) :
    PE X (.Call (.Attribute o "index" apos) [e] [] p2) (tE (gOf X T) W (lixM fo fv)) :=
  pe_mono (pe_bm PySem.F.plainAttrs_list PySem.F.slot_list_index PySem.F.type_list_index (mt_indexD hu) ho (pa_cons he pa_nil hs) hbase hfew hline hs hpl) fun σ H Q h => by
    obtain ⟨x, m, ρ, S, p, h⟩ := h
    refine ⟨x, m, ρ, S, p, (Post.bind h).mono fun uo S1 m1 H1 E1 R1 ⟨_, _, h1⟩ ov ro => ?_⟩
    have p1 := p.ext E1 R1
    split at h1
    case isFalse => exact h1.elim
    case isTrue hl =>
    have hty : tyV X.K "list" ov H1 := by
      cases uo with
      | t _ => simp [isLsU] at hl
      | d d => cases d with
        | lst xs => cases ro with
          | d ro => cases ro with
            | lst h _ _ => exact .inl ⟨rfl, _, .of h⟩
        | _ => simp [isLsU] at hl
      | c j => cases ro with
        | @c _ a ha' =>
          have hjl : j < S1.length := by rw [← R1.len]; exact (List.getElem?_eq_some_iff.mp ha').1
          cases hc : S1[j]? with
          | none => rw [List.getElem?_eq_none_iff] at hc; omega
          | some c =>
            simp only [isLsU] at hl
            rw [hc] at hl
            obtain ⟨ob, o1, o2⟩ := R1.at' j a c ha' hc
            cases o2 with
            | dic _ _ => simp [isLst] at hl
            | ins _ _ _ => simp [isLst] at hl
            | @lst vs _ hvs => exact .inl ⟨rfl, vs, .of o1⟩
    refine ⟨hty, x, m1, ρ, S1, p1, (Post.bind h1).mono fun ue S2 m2 H2 E2 R2 ⟨_, _, h2⟩ v rv => ?_⟩
    have ro2 := ro.ext E2
    split at h2
    · rename_i xs y q1 q2
      split at h2
      · rename_i hsh
        split at h2
        · rename_i z hz
          obtain ⟨s1, s2⟩ := Bool.and_eq_true_iff.mp hsh
          obtain ⟨j, w, e1, e2, e3, e4⟩ := lixG_ok hz
          have r1 := ro2.rt R2 q1
          have r2 := rv.rt R2 q2
          obtain ⟨a, ws, rfl, g1, g2⟩ := r1.lst'
          subst e1
          refine ⟨a, v, y.P, Ps xs, j, w.P, rfl, rfl, r1.dp s1, r2.dp s2, s1, s2, by rw [Ps_get, e2]; rfl, e3, fun k z' hk hz' => ?_, h2 m2 H2 Ext.refl R2 _ (.d (.int _))⟩
          rw [Ps_get] at hz'
          obtain ⟨w', hw', rfl⟩ := Option.map_eq_some_iff.mp hz'
          exact e4 k w' hk hw'
        · exact h2.elim
      · exact h2.elim
    · exact h2.elim
end
end Mir

/-! Mir25: dict(pairs), the keys of which differ. -/
namespace Mir
open PySem PySem.Spec PyProof.Rows L2 RZ
def keyD : D → Option Key
  | .int i => some (.inl i)
  | .str x => some (.inr x)
  | _ => none
def prsP : List D → Option (List Key × List D)
  | [] => some ([], [])
  | .tup [k, v] :: ds => match keyD k, prsP ds with
    | some k, some r => some (k :: r.1, v :: r.2)
    | _, _ => none
  | _ => none
def keyT : D → Option NestedKey
  | .tup xs => match toN (.tup xs) with
    | some k => if k.depth ≤ 8 then some k else none
    | none => none
  | _ => none
def prsT : List D → Option (List NestedKey × List D)
  | [] => some ([], [])
  | .tup [k, v] :: ds => match keyT k, prsT ds with
    | some k, some r => some (k :: r.1, v :: r.2)
    | _, _ => none
  | _ => none
def dicP (ds : List D) : Option D := match prsP ds with
  | some r => if r.1.Nodup ∧ ds.length ≤ big then some (.dic false (r.1.map kN) r.2) else none
  | none => none
def dicT (ds : List D) : Option D := match prsT ds with
  | some r => if r.1.Nodup ∧ ds.length ≤ big then some (.dic true r.1 r.2) else none
  | none => none
def dicG : List D → Option D
  | [.lst ds] => match dicP ds with
    | some z => some z
    | none => dicT ds
  | _ => none
theorem mergeK_app : ∀ (more acc : List (Key × V)), (acc.map (·.1) ++ more.map (·.1)).Nodup → mergeK acc more = acc ++ more
  | [], acc, _ => by simp [mergeK]
  | p :: more, acc, h => by
    have hp : (acc.any fun kv => decide (kv.1 = p.1)) = false := by
      rw [List.any_eq_false]
      intro x hx q
      have e : x.1 = p.1 := by simpa using q
      have := List.nodup_append.mp h
      exact this.2.2 x.1 (List.mem_map_of_mem hx) p.1 (by simp) e
    show mergeK (putK acc p.1 p.2) more = _
    rw [putK, if_neg (by rw [hp]; exact Bool.false_ne_true), mergeK_app more _ (by simpa using h)]
    simp
theorem storedAllH_app : ∀ (more acc : List (NestedKey × Addr × Value)), (acc.map (·.1) ++ more.map (·.1)).Nodup → storedAllH acc more = acc ++ more
  | [], acc, _ => by simp [storedAllH]
  | p :: more, acc, h => by
    have hp : atKey acc p.1 = none := by
      unfold atKey
      rw [Option.map_eq_none_iff, List.find?_eq_none]
      intro x hx q
      have e : x.1 = p.1 := by simpa using q
      have := List.nodup_append.mp h
      exact this.2.2 x.1 (List.mem_map_of_mem hx) p.1 (by simp) e
    show storedAllH (storedH acc p.1 p.2.1 p.2.2) more = _
    rw [storedH_new hp, storedAllH_app more _ (by simpa using h)]
    simp
section
variable {G : Gc} {e : List Addr} {H : Hp}
theorem prsP_ok : ∀ {ds : List D} {xs : List V} {r : List Key × List D}, RVs G e H ds xs → prsP ds = some r →
    ∃ (ps : List Addr) (vs : List V), xs = ps.map V.ref ∧ r.1.length = vs.length ∧ Paired (fun p (kv : Key × V) => SqT G.K H p [kV kv.1, kv.2]) ps (r.1.zip vs) ∧ RVs G e H r.2 vs
  | [], _, r, .nil, h => by cases h; exact ⟨[], [], rfl, rfl, .nil, .nil⟩
  | d :: ds, _, r, .cons r1 t, h => by
    unfold prsP at h
    split at h
    · rename_i q; cases q
    · rename_i k v ds' q
      cases q
      split at h
      · rename_i kk rr h1 h2
        cases h
        obtain ⟨ps, vs, e1, e2, e3, e4⟩ := prsP_ok t h2
        cases r1 with
        | @tup a ys _ s1 s2 =>
          cases s2 with
          | cons u1 u2 => cases u2 with
            | cons u2 u3 =>
              cases u3
              rename_i vk vv
              have ek : vk = kV kk := by
                unfold keyD at h1
                split at h1
                · cases h1; cases u1; rfl
                · cases h1; cases u1; rfl
                · cases h1
              subst ek e1
              exact ⟨a :: ps, vv :: vs, rfl, by simp [e2], .cons s1 e3, .cons u2 e4⟩
      · cases h
    · cases h
theorem prsT_ok : ∀ {ds : List D} {xs : List V} {r : List NestedKey × List D}, RVs G e H ds xs → prsT ds = some r →
    ∃ (ps : List Addr) (ts : List (NestedKey × Addr × V)), xs = ps.map V.ref ∧ ts.map (·.1) = r.1 ∧ Paired (fun p (t : NestedKey × Addr × V) => SqT G.K H p [.ref t.2.1, t.2.2]) ps ts ∧ RVs G e H r.2 (ts.map (·.2.2)) ∧ ∀ t ∈ ts, RN G H t.1 (.ref t.2.1) ∧ t.1.depth ≤ 8
  | [], _, r, .nil, h => by cases h; exact ⟨[], [], rfl, rfl, .nil, .nil, fun _ z => by cases z⟩
  | d :: ds, _, r, .cons r1 t, h => by
    unfold prsT at h
    split at h
    · rename_i q; cases q
    · rename_i k v ds' q
      cases q
      split at h
      · rename_i kk rr h1 h2
        cases h
        obtain ⟨ps, ts, e1, e2, e3, e4, e5⟩ := prsT_ok t h2
        cases r1 with
        | @tup a ys _ s1 s2 =>
          cases s2 with
          | cons u1 u2 => cases u2 with
            | cons u2 u3 =>
              cases u3
              rename_i vk vv
              unfold keyT at h1
              split at h1
              · rename_i xs
                split at h1
                · rename_i k2 hk2
                  split at h1
                  · rename_i hd
                    cases h1
                    have rn := u1.rn hk2
                    cases u1 with
                    | @tup b zs _ w1 w2 =>
                      subst e1
                      exact ⟨a :: ps, (kk, b, vv) :: ts, rfl, by simp [e2], .cons s1 e3, .cons u2 e4, fun t ht => by
                        rcases List.mem_cons.mp ht with z | z
                        · subst z; exact ⟨rn, hd⟩
                        · exact e5 t z⟩
                  · cases h1
                · cases h1
              · cases h1
      · cases h
    · cases h
end
section
variable {X : Cx} {T : List (Addr × Str)}
theorem Paired.len {α β : Type} {F : α → β → Prop} {xs : List α} {ys : List β} (h : Paired F xs ys) : xs.length = ys.length := by
  induction h with
  | nil => rfl
  | cons _ _ ih => simp [ih]
theorem PT3_keys : ∀ {ts : List (NestedKey × Addr × V)} {us : List (NestedKey × Addr × Value)}, PT3 ts us → us.map (·.1) = ts.map (·.1)
  | _, _, .nil => rfl
  | _, _, .cons h t => by simp [PT3_keys t, h.1]
/-- the tuples of the argument, raw -/
theorem rawT {pins : List (Addr × Obj)} {s : Shared} {σ : St} {H : Hp} (I : Inv X pins σ H s) : ∀ {ps : List Addr} {ts : List (NestedKey × Addr × V)}, Paired (fun p (t : NestedKey × Addr × V) => SqT X.K H p [.ref t.2.1, t.2.2]) ps ts →
    ∃ us : List (NestedKey × Addr × Value), PT3 ts us ∧ us.length = ps.length ∧ ∀ (j : Nat) (q : NestedKey × Addr × Value), us[j]? = some q → ∃ p, ps[j]? = some p ∧ IsTup s.heap p #[.ref q.2.1, q.2.2]
  | _, _, .nil => ⟨[], .nil, rfl, fun j q e => by simp at e⟩
  | _, _, .cons (a := p) (b := t) h r => by
    obtain ⟨us, g1, g2, g3⟩ := rawT I r
    obtain ⟨its, rv, ht, _⟩ := I.tuple h
    obtain ⟨u, y, ei, ru, ry⟩ := vals2 rv
    subst ei
    cases ru
    refine ⟨(t.1, t.2.1, y) :: us, .cons ⟨rfl, rfl, ry⟩ g1, by simp [g2], fun j q e => ?_⟩
    cases j with
    | zero => cases e; exact ⟨p, rfl, ht⟩
    | succ j => simpa using g3 j q (by simpa using e)
theorem c_dict (hu : X.A.units + 65 < cLine) (hcalm : X.calm = true) : CallR X (.type "dict") (rC (gOf X T) dicG) := by
  intro pins s σ H vs us Q I rs ⟨ds, z, e, m, hg, tr, r, q⟩
  unfold dicG at hg
  split at hg
  · rename_i ds
    obtain ⟨v, rfl, r1⟩ := r.one
    obtain ⟨a, xs, rfl, g1, g2⟩ := r1.lst'
    have plain : ∀ z, dicP ds = some z → (∀ H' w, Ext (gOf X T) m H m H' → (∀ a ∈ m, H a ≠ none → H' a = H a) → RV (gOf X T) e H' z w → Q w H') → wpAny (model X.prog X.w) X.A (call (.type "dict") us) (EP X pins σ Q) X.xe s := by
      intro z hz q
      unfold dicP at hz
      split at hz
      · rename_i rr hr
        split at hz
        · rename_i hn
          cases hz
          obtain ⟨ps, ws, e1, e2, e3, e4⟩ := prsP_ok g2 hr
          subst e1
          refine call_dictP hcalm pins s σ H _ us Q I rs ⟨a, ps, rr.1.zip ws, rfl, .inl (.inl g1), e3, fun p np => ?_⟩
          have hk : mergeK [] (rr.1.zip ws) = rr.1.zip ws := by
            rw [mergeK_app _ [] (by simpa [List.map_fst_zip (Nat.le_of_eq e2)] using hn.1)]
            rfl
          rw [hk]
          exact q _ _ (Ext.new np) (newKeep np) (RV.newDic e4 (.k rr.1 ws e2) np tr)
        · cases hz
      · cases hz
    split at hg
    · rename_i z' hz
      cases hg
      exact plain _ hz q
    · unfold dicT at hg
      split at hg
      · rename_i rr hr
        split at hg
        · rename_i hn
          cases hg
          obtain ⟨ps, ts, e1, e2, e3, e4, e5⟩ := prsT_ok g2 hr
          subst e1
          obtain ⟨u, eu, rx⟩ := vals1 rs
          subst eu
          cases rx
          obtain ⟨its, rv, pl, hzl⟩ := I.list (X := X) (H := H) (a := a) (xs := ps.map V.ref) (.inl (.inl g1))
          have ei := refs_at rv
          subst ei
          obtain ⟨us, w1, w2, w3⟩ := rawT I e3
          obtain ⟨o, n, ho, hc, hd, hdat⟩ := pl
          have hl : us.length = ts.length := (Paired.len w1).symm
          have hkeys : us.map (·.1) = ts.map (·.1) := PT3_keys w1
          have hnd : (us.map (·.1)).Nodup := by rw [hkeys, e2]; exact hn.1
          have hdl : ts.length ≤ big := by
            have h1 : ts.length = ps.length := (Paired.len e3).symm
            have h2 : ds.length = ps.length := by rw [g2.len, List.length_map]
            omega
          have hst : ∀ h2 : Heap, (∀ b o, s.heap.get? b = some o → h2.get? b = some o) → ∀ x ∈ us, (nestedKind X.prog X.w).is h2 x.1 x.2.1 := by
            intro h2 hk
            clear hnd hkeys hl w2 w3 e4 e2 hdl e3
            induction w1 with
            | nil => intro x hx; cases hx
            | @cons t u ts us ht _ ih =>
              intro x hx
              rcases List.mem_cons.mp hx with z | z
              · subst z
                obtain ⟨y1, y2⟩ := e5 t List.mem_cons_self
                rw [← ht.1, ← ht.2.1]
                exact nestedKind_stays.stays (fun b o vs n e _ => hk b o e) ⟨RN.nested I _ _ _ y1 rfl, y2⟩
              · exact ih (fun t ht => e5 t (List.mem_cons_of_mem _ ht)) x z
          have hTs : PairItems s.heap (ps.map Value.ref).toArray (fun j => ps.getD j 0) (us.map fun t => (Value.ref t.2.1, t.2.2)) := by
            refine ⟨by simp [w2], fun j k v hj => ?_⟩
            rw [List.getElem?_map, Option.map_eq_some_iff] at hj
            obtain ⟨t, h1, h2⟩ := hj
            cases h2
            obtain ⟨p, q1, q2⟩ := w3 j t h1
            have e : ps.getD j 0 = p := by rw [List.getD_eq_getElem?_getD, q1]; rfl
            show (List.map Value.ref ps).toArray[j]? = some (Value.ref (ps.getD j 0)) ∧ PairAt s.heap (ps.getD j 0) _ _
            rw [e]
            refine ⟨by simp [q1], ?_⟩
            obtain ⟨o', ho', hc', n', hd'⟩ := q2
            exact .inl ⟨o', ho', hc', n', hd'⟩
          refine call_dict_pairsH (knd := nestedKind X.prog X.w) (ps := us) (PairArg.list a (ps.map Value.ref).toArray (fun j => ps.getD j 0) (us.map fun t => (Value.ref t.2.1, t.2.2))) (I.ok.hd hcalm) (show X.A.in1.in1.units + 8 < cLine from by show X.A.units + 1 + 1 + 8 < cLine; omega) ⟨⟨o, n, ho, hc, hd, hdat⟩, hTs⟩ ⟨by simp, fun i key v hr => ?_⟩ (fun h2 hk => hst h2 fun b o e => hk b o (Nat.ne_of_lt (Heap.lt_size e)) (fun z => by cases z) e) (by rw [List.length_map, hl]; exact big_ok hdl) fun h' tk hd' k => ?_
          · have hr' : (us.map fun t => (Value.ref t.2.1, t.2.2))[i]? = some (key, v) := hr
            rw [List.getElem?_map, Option.map_eq_some_iff] at hr'
            obtain ⟨t, h1, h2⟩ := hr'
            cases h2
            exact ⟨t.1, t.2.1, h1, rfl⟩
          · have hm : (s.heap.objs.size == sysModules) = false := beq_eq_false_iff_ne.mpr (Nat.ne_of_gt I.big)
            rw [storedAllH_app us [] (by simpa using hnd), List.nil_append] at hd'
            obtain ⟨o2, es, ep, y1, y2, y3, y4, y5, y6⟩ := hd'
            have np : H s.heap.objs.size = none := I.hok.fresh (Nat.le_refl _)
            have k2 : ∀ b u, s.heap.get? b = some u → h'.get? b = some u := fun b u e => k b u (fun z => by cases z) e
            have I' : Inv X pins σ (upd H s.heap.objs.size (dicN X.prog X.w s.heap.objs.size ts)) { s with heap := h', toks := tk } := by
              refine I.laid (t' := tk) k2 (Nat.le_refl _) ⟨⟨Nat.le_trans hdl (big_ok (Nat.le_refl _)), hm, us, w1, o2, es, ep, y1, y2, y3, y4, y6⟩, ⟨o2, y1⟩, ?_⟩
              rintro g1 g2 ⟨q1, q2, us', q3, o', es', ep', q4, q5⟩ kk
              exact ⟨q1, q2, us', q3, o', es', ep', kk _ q4, q5⟩
            refine ⟨.ref s.heap.objs.size, _, I', rfl, q _ _ (Ext.new np) (newKeep np) ?_⟩
            have kp : ∀ (aa : Addr) (yy : List V), SqT X.K H aa yy → SqT X.K (upd H s.heap.objs.size (dicN X.prog X.w s.heap.objs.size ts)) aa yy := fun aa yy h => SqT.ext (G := gOf X T) (m := m) (m' := m) (Ext.new np) h
            have rd := RD.n (G := gOf X T) (H := upd H s.heap.objs.size (dicN X.prog X.w s.heap.objs.size ts)) (a := s.heap.objs.size) ts fun t ht => ⟨(e5 t ht).1.ext kp, (e5 t ht).2⟩
            rw [e2] at rd
            have rd0 := RD.n (G := gOf X T) (H := H) (a := s.heap.objs.size) ts e5
            rw [e2] at rd0
            exact RV.newDic e4 rd0 np tr
        · cases hg
      · cases hg
  · cases hg
end
end Mir

/-! Mir26: {k: v, ..} with written texts as keys, as a new cell. -/
namespace Mir
open PySem PySem.Spec PyProof.Rows L2 HT
section
variable {X : Cx} {T : List (Addr × Str)} {W : WX} {pos : Pos}
def nddM (ks : List Str) (fs : List ME) : ME := fun ρ S => match argsM fs ρ S with
  | .ok us S' => match pures us with
    | some ds => .ok (.c S'.length) (S' ++ [.dic false (ks.map .text) ds])
    | none => .un
  | _ => .un
theorem RS.push {G : Gc} {x m : List Addr} {H : Hp} {S : Sto} {p : Addr} {c : Cell} {o : HO} (r : RS G (x ++ (m ++ [p])) m H S) (np : p ∉ m) (hp : H p = some o) (hc : RC G (x ++ (m ++ [p])) H p c o) : RS G (x ++ (m ++ [p])) (m ++ [p]) H (S ++ [c]) := by
  refine ⟨by simp [r.len], ?_, fun b hb => List.mem_append_right _ hb, fun i a c' h1 h2 => ?_⟩
  · exact List.nodup_append.mpr ⟨r.nd, by simp, fun a ha b hb => by
      have : b = p := by simpa using hb
      rw [this]
      exact fun z => np (z ▸ ha)⟩
  · by_cases hi : i < m.length
    · rw [List.getElem?_append_left hi] at h1
      rw [List.getElem?_append_left (by rw [← r.len]; exact hi)] at h2
      exact r.at' i a c' h1 h2
    · have hi2 : i = m.length := by
        have := (List.getElem?_eq_some_iff.mp h1).1
        simp at this
        omega
      subst hi2
      simp at h1
      rw [r.len] at h2
      simp at h2
      subst h1 h2
      exact ⟨o, hp, hc⟩
theorem e_ndd {keys : List (Option Expr)} {values : List Expr} {ks : List Str} {fs : List ME} (h : MPs X T W pos keys values ks fs) (hk : ks.Nodup := by decide +kernel) (hl : ks.length = fs.length := by rfl) (h15 : Nat.ble ks.length 15 = true := by rfl)
    (hall : keys.all (·.isSome) = true := by rfl) (hlen : keys.length = values.length := by rfl) (h0 : keys ≠ [] := by simp) (hk15 : keys.length ≤ 15 := by decide) : PE X (.Dict keys values pos) (tE (gOf X T) W (nddM ks fs)) := pe_mono (pe_disp h hall hlen h0 hk15) fun σ H Q h => by
  obtain ⟨y, m, ρ, S, q, h⟩ := h
  intro p np
  have hide : Keep (gOf X T) (y ++ m) H (p :: (y ++ m)) (upd H p (.dK [])) := Keep.hide np
  have p0 : Rp (gOf X T) (p :: y) m (upd H p (.dK [])) ρ S σ := ⟨q.env.keep hide, q.sto.keep hide (fun b hb => List.mem_cons_of_mem _ (List.mem_append_right _ hb)) (fun a ha => by
      obtain ⟨u, z⟩ := q.sto.live ha
      rw [upd_ne (ne_of_none z np)]) (fun b c z => by rw [upd_ne (ne_of_none z np)]; exact z), fun b hb => by
        rcases List.mem_cons.mp hb with z | z
        · rw [z]; exact ⟨_, upd_same, fun ps z => by cases z⟩
        · obtain ⟨u, w, wn⟩ := q.ex b z
          exact ⟨u, by rw [upd_ne (ne_of_none w np)]; exact w, wn⟩, q.tab.ext fun b u z => by rw [upd_ne (ne_of_none z np)]; exact z⟩
  have nm : p ∉ m := fun z => by
    obtain ⟨u, w⟩ := q.sto.live z
    rw [np] at w; cases w
  have ny : p ∉ y := fun z => by
    obtain ⟨u, w, _⟩ := q.ex p z
    rw [np] at w; cases w
  have E0 : Ext (gOf X T) m H m (upd H p (.dK [])) := Ext.new np
  refine disp_args hl p0 ?_
  unfold nddM at h
  cases qa : argsM fs ρ S with
  | un => rw [qa] at h; exact h.elim
  | ex ee S' => rw [qa] at h; exact h.elim
  | ok us S' =>
    rw [qa] at h
    intro m1 H1 E1 R1 vs rvs
    dsimp only at h
    split at h
    · rename_i ds hd
      have hr := RUs.pure rvs hd
      have hv : vs.length = ks.length := by rw [← RUs.length rvs, argsM_len qa, hl]
      have hp1 : H1 p = some (.dK []) := E1.keep _ _ upd_same nm (fun ps z => by cases z)
      have nm1 : p ∉ m1 := fun z => by
        obtain ⟨nw, e1, f1⟩ := E1.pre
        rw [e1] at z
        rcases List.mem_append.mp z with z | z
        · exact nm z
        · exact f1 p z ⟨_, upd_same, fun ps z => by cases z⟩
      have nk : ((([] : List (Key × V)) ++ (ks.map Sum.inr : List Key).zip vs).map (·.1)).Nodup := by
        rw [List.nil_append, (zip_keys hv).2]
        exact List.Pairwise.map _ (fun a b hab z => hab (Sum.inr.inj z)) hk
      refine ⟨hp1, (ks.map Sum.inr).zip vs, (zip_keys hv).1, ?_, ?_⟩
      · rw [List.length_zip, List.length_map, hv, Nat.min_self]
        exact Nat.le_of_ble_eq_true h15
      · rw [mergeK_nodup _ _ nk, List.nil_append]
        have E2 : Ext (gOf X T) m H m1 (upd H1 p (.dK ((ks.map Sum.inr).zip vs))) := Ext.growO (E0.trans E1) np hp1 (fun ps z => by cases z) (fun c q z => dK_code) (fun ps z => by cases z)
        have E3 : Ext (gOf X T) m H (m1 ++ [p]) (upd H1 p (.dK ((ks.map Sum.inr).zip vs))) := by
          refine ⟨E2.keep, E2.tups, E2.frzs, E2.owns, E2.live, ?_, E2.tab⟩
          obtain ⟨nw, e1, f1⟩ := E2.pre
          refine ⟨nw ++ [p], by rw [e1, List.append_assoc], fun b hb => ?_⟩
          rcases List.mem_append.mp hb with z | z
          · exact f1 b z
          · have : b = p := by simpa using z
            subst this
            intro w
            obtain ⟨u, w1, _⟩ := w
            rw [np] at w1; cases w1
        have kg : Keep (gOf X T) (p :: y ++ m1) H1 (p :: y ++ m1) (upd H1 p (.dK ((ks.map Sum.inr).zip vs))) := Keep.upd1 hp1 (fun _ z => by cases z) (fun _ _ z => by cases z) List.mem_cons_self
        have sub : ∀ a ∈ y ++ (m1 ++ [p]), a ∈ p :: y ++ m1 := fun a ha => by
          rcases List.mem_append.mp ha with z | z
          · exact List.mem_cons_of_mem _ (List.mem_append_left _ z)
          · rcases List.mem_append.mp z with z | z
            · exact List.mem_cons_of_mem _ (List.mem_append_right _ z)
            · have : a = p := by simpa using z
              subst this
              exact List.mem_cons_self
        have ks2 : Keep (gOf X T) (p :: y ++ m1) (upd H1 p (.dK ((ks.map Sum.inr).zip vs))) (y ++ (m1 ++ [p])) (upd H1 p (.dK ((ks.map Sum.inr).zip vs))) := keep_sub sub
        have R2 := (R1.keep kg (fun b hb => List.mem_append_right _ hb) (fun a ha => upd_ne fun z => nm1 (z ▸ ha)) (fun b c q => by
            rw [upd_ne (fun z => by rw [z, hp1] at q; cases q)]; exact q)).keep ks2 (fun b hb => List.mem_append_right _ (List.mem_append_left _ hb)) (fun _ _ => rfl) fun _ _ q => q
        have rd := RD.k (G := gOf X T) (H := upd H1 p (.dK ((ks.map Sum.inr).zip vs))) (a := p) (ks.map Sum.inr) vs (by rw [List.length_map, hv])
        have ek : (ks.map (Sum.inr : Str → Key)).map kN = ks.map .text := by simp [kN, Function.comp_def]
        rw [ek] at rd
        have R3 := R2.push nm1 upd_same (.dic rd ((hr.keep kg).keep ks2))
        exact h (m1 ++ [p]) _ E3 R3 _ (.c (by rw [← R1.len]; simp))
    · exact h.elim
end
end Mir

/-! Tx: set(a tuple of texts), sorted(that). -/
namespace Tx
open PySem PySem.Spec PyProof.Rows L2 PySem.Froz
/-- a set that holds the texts l, laid so that it can be walked -/
def Is (P : Program) (w : World) (h : Heap) (a : Addr) (l : List Str) : Prop :=
  ∃ D : SD, h.get? a = some (sObj "set" D) ∧ TxOk P w D l ∧ l.Nodup ∧ Ris D.2.2.place.toList ∧ (w.params.followText "set-order" = true ∨ D.2.2.led = true) ∧ (D.1.toList.map fun e => strOf e.2).Perm l
section
variable {P : Program} {w : World} {A : Around} {E : Value → Shared → Prop} {s : Shared} {a : Addr} {l : List Str}
theorem Is.at {h h' : Heap} (x : Is P w h a l) (k : ∀ o, h.get? a = some o → h'.get? a = some o) : Is P w h' a l := by
  obtain ⟨D, ho, r⟩ := x
  exact ⟨D, k _ ho, r⟩
theorem Is.lt {h : Heap} (x : Is P w h a l) : a < h.objs.size := by
  obtain ⟨D, ho, _⟩ := x
  exact Heap.lt_size ho
theorem tail_walk {ep : Nat} {es1 : Array (Int × Value)} {t2 : SetTable} {b : Bool} (r : Ris t2.place.toList) : Ris (tailTx ep es1 t2 b).2.2.place.toList ∧ (tailTx ep es1 t2 b).2.2.led = t2.led := by
  unfold tailTx
  split
  · exact ⟨relayAll_ris t2 es1 _, relayAll_led t2 es1 _⟩
  · exact ⟨r, rfl⟩
theorem add_walk {D : SD} {hv : Int} {v : Value} (r : Ris D.2.2.place.toList) : Ris (addTx hv v D).2.2.place.toList ∧ (addTx hv v D).2.2.led = D.2.2.led := by
  have r1 := layNew_ris D.2.2 D.1 hv v r
  have l1 := layNew_led D.2.2 D.1 hv v
  unfold addTx
  split
  · obtain ⟨x, y⟩ := tail_walk (ep := D.2.1) (es1 := (layNew D.2.2 D.1 hv v).1) (t2 := { (layNew D.2.2 D.1 hv v).2.1 with plain := false }) (b := (layNew D.2.2 D.1 hv v).2.2.1) r1
    exact ⟨x, y.trans l1⟩
  · obtain ⟨x, y⟩ := tail_walk (ep := D.2.1) (es1 := (layNew D.2.2 D.1 hv v).1) (t2 := (layNew D.2.2 D.1 hv v).2.1) (b := (layNew D.2.2 D.1 hv v).2.2.1) r1
    exact ⟨x, y.trans l1⟩
theorem add_perm (D : SD) (hv : Int) (v : Value) : (addTx hv v D).1.toList.Perm ((hv, v) :: D.1.toList) := by
  have p1 := layNew_perm D.2.2 D.1 hv v
  rw [Array.toList_push] at p1
  have p2 : (layNew D.2.2 D.1 hv v).1.toList.Perm ((hv, v) :: D.1.toList) := p1.trans (List.perm_append_singleton _ _)
  have key : ∀ (ep : Nat) (t2 : SetTable) (b : Bool), (tailTx ep (layNew D.2.2 D.1 hv v).1 t2 b).1.toList.Perm ((hv, v) :: D.1.toList) := fun ep t2 b => by
    unfold tailTx
    split
    · exact (relayAll_perm t2 _ _).trans p2
    · exact p2
  exact key _ _ _
/-- a text that is there already -/
theorem add_old {D : SD} {k : Str} {u : Tok} {Q : Bool → Shared → Prop} (ho : s.heap.get? a = some (sObj "set" D)) (F : TxOk P w D l) (hk : k ∈ l) (hb : l.length < scanBound) (h : Q false s) :
    wpAny (model P w) A (setAddHashed a (.str k u) (hashStr w k)) Q E s := by
  have hd : (sObj "set" D).data = .set D.1 D.2.1 D.2.2 := rfl
  have h0 : D.1.size < scanBound := by rw [F.sz]; exact hb
  have hy : (strKind P w).is k (.str k u) = true := is_str k u
  unfold setAddHashed setAddHashedIn
  refine wpAny_holding (wpAny_bind (wpAny_setState_of ho hd F.fit ?_)); dsimp only
  rw [byScan_of rfl h0 F.el]; simp only [↓reduceIte]
  unfold setAddByScan
  refine wpAny_bind (wpAny_bind (wpAny_rule (wpAny_bind (wpAny_setScan_of (knd := strKind P w) (k := k) hy ho hd F.fit F.el ?_))))
  cases q : List.findIdx? (fun e => (strKind P w).is k e.2) D.1.toList with
  | some j => dsimp only; exact wpAny_pure (wpAny_pure h)
  | none =>
    obtain ⟨e, he, z⟩ := (F.mem k).mp hk
    have c := List.findIdx?_eq_none_iff.mp q e he
    rw [z] at c; cases c
def put (l : List Str) (k : Str) : List Str := if k ∈ l then l else k :: l
theorem add_any {k : Str} {u : Tok} {Q : Bool → Shared → Prop} (x : Is P w s.heap a l) (hb : l.length + 1 < scanBound)
    (h : ∀ (y : Bool) h' tk, (∀ b o, b ≠ a → s.heap.get? b = some o → h'.get? b = some o) → Is P w h' a (put l k) → Q y { s with heap := h', toks := tk }) :
    wpAny (model P w) A (setAdd a (.str k u)) Q E s := by
  obtain ⟨D, ho, F, nd, r, ld, pm⟩ := x
  have hy : (strKind P w).is k (.str k u) = true := is_str k u
  unfold setAdd
  refine wpAny_holding (wpAny_bind ((strKind P w).pyHash hy ?_))
  by_cases hk : k ∈ l
  · refine add_old (s := { s with toks := s.toks + 1 }) ho F hk (by omega) ?_
    have := h false s.heap (s.toks + 1) (fun _ _ _ e => e) (by unfold put; rw [if_pos hk]; exact ⟨D, ho, F, nd, r, ld, pm⟩)
    exact this
  · obtain ⟨r', ld'⟩ := add_walk (hv := hashStr w k) (v := .str k u) r
    refine add_x (s := { s with toks := s.toks + 1 }) ho F hk hb ?_
    have := h true (s.heap.update a fun _ => sObj "set" (addTx (hashStr w k) (.str k u) D)) (s.toks + 1) (fun b o hne e => (Heap.get?_update_other _ _ (Ne.symm hne)).trans e)
      (by unfold put; rw [if_neg hk]; exact ⟨_, get_upd _ ho rfl, add_ok u F, List.nodup_cons.mpr ⟨hk, nd⟩, r', ld.imp id fun z => by rw [ld']; exact z, ((add_perm D (hashStr w k) (.str k u)).map _).trans (List.Perm.cons k pm)⟩)
    exact this
theorem put_len (l : List Str) (k : Str) : (put l k).length ≤ l.length + 1 := by
  unfold put
  split
  · omega
  · simp
def gath (l : List Str) : List Str → List Str
  | [] => l
  | k :: ks => gath (put l k) ks
/-- the walk of set(xs) over a tuple of texts -/
theorem fill {I S : Addr} {fp wr : List Addr} {n : Nat} {Pv : Nat → Value → Prop} {St : Nat → Heap → Prop} {R : Result → Shared → Prop} (W : Walks P w A.in1 I fp wr n Pv St) (hS : S ∉ fp) (hw : S ∉ wr) :
    ∀ (ks : List Str) (i : Nat) (s : Shared) (l : List Str), i + ks.length = n → (∀ j k, ks[j]? = some k → ∀ v, Pv (i + j) v → ∃ t, v = .str k t) → l.length + ks.length + 1 < scanBound → St i s.heap → Is P w s.heap S l →
      (∀ h' tk, (∀ b o, b ≠ S → b ∉ wr → s.heap.get? b = some o → h'.get? b = some o) → Is P w h' S (gath l ks) → R (.ok (.ret .none)) { s with heap := h', toks := tk }) →
      codeAny (model P w) A (.builtin "set.update.loop" ⟨[.ref S, .ref I], []⟩) R s
  | [], i, s, l, hn, _, _, st, x, h => by
    have e : i = n := by simpa using hn
    subst e
    refine codeAny_builtin F.entry_set_update_loop ?_
    rw [Around.under_plainId F.plain_set_update_loop _]
    show wpAny _ A.in1 (pyNext (.ref I) >>= _) _ _ s
    refine wpAny_bind (W.done s _ _ st fun h' tk k => ?_)
    show wpAny _ A.in1 (ret Value.none) _ _ _
    exact wpAny_pure (h h' tk (fun b o _ hb e => k b o hb e) (x.at fun o e => k S o hw e))
  | k :: ks, i, s, l, hn, hv, hb, st, x, h => by
    simp only [List.length_cons] at hn hb
    refine codeAny_builtin F.entry_set_update_loop ?_
    rw [Around.under_plainId F.plain_set_update_loop _]
    show wpAny _ A.in1 (pyNext (.ref I) >>= _) _ _ s
    refine wpAny_bind (W.item i s _ _ (by omega) st fun v h1 t1 pv st1 k1 => ?_)
    obtain ⟨t, rfl⟩ := hv 0 k rfl v pv
    have x1 : Is P w h1 S l := x.at fun o e => k1 S o hw e
    show wpAny _ A.in1 (holding [Value.str k t] (setAdd S (.str k t)) >>= _) _ _ _
    refine wpAny_bind (wpAny_holding (add_any (s := { s with heap := h1, toks := t1 }) x1 (by omega) fun y h2 t2 k2 x2 => ?_))
    have pl := put_len l k
    refine wpAny_pure ⟨plainId_quiet F.plain_set_update_loop _, fill W hS hw ks (i + 1) _ (put l k) (by omega) (fun j k' hj v' pv' => hv (j + 1) k' (by simpa using hj) v' (by rw [show i + (j + 1) = i + 1 + j by omega]; exact pv')) (by omega) (W.frame _ _ _ st1 fun b hbf o e => k2 b o (fun z => hS (z ▸ hbf)) e) x2 fun h3 t3 k3 x3 => ?_⟩
    exact h h3 t3 (fun b o n1 n2 e => k3 b o n1 n2 (k2 b o n1 (k1 b o n2 e))) x3
end
end Tx

/-! Ty: set(a tuple of texts) as a call. -/
namespace Tx
open PySem PySem.Spec PyProof.Rows L2 PySem.Froz
section
variable {P : Program} {w : World} {A : Around} {E : Value → Shared → Prop} {s : Shared} {a : Addr} {l : List Str}
theorem strs_at : ∀ {vs : List Value} {ts : List Str}, StrsAre vs ts → ∀ (j : Nat) (k : Str) (v : Value), ts[j]? = some k → vs[j]? = some v → ∃ u, v = .str k u
  | _, _, .nil, j, k, v, hk, _ => by simp at hk
  | _, _, .cons x t r, 0, k, v, hk, hv => by
    simp at hk hv
    exact ⟨t, by rw [← hv, hk]⟩
  | _, _, .cons x t r, j + 1, k, v, hk, hv => strs_at r j k v (by simpa using hk) (by simpa using hv)
def fresh (w : World) : Obj := { cls := .type "set", dict := none, data := .set #[] 0 (.fresh 0 0 (!w.params.followText "set-order")) }
theorem is_fresh {h : Heap} (ho : h.get? a = some (fresh w)) : Is P w h a [] :=
  ⟨(#[], 0, .fresh 0 0 (!w.params.followText "set-order")), ho, TxOk.nil rfl, List.nodup_nil, List.Pairwise.nil, by
    cases e : w.params.followText "set-order"
    · exact .inr rfl
    · exact .inl rfl, List.Perm.refl _⟩
theorem make1 (x : Value) {Q1 : Value → Shared → Prop} (h : Q1 (.ref s.heap.objs.size) { s with heap := s.heap.push (fresh w) }) :
    codeAny (model P w) A (.call (.builtin "set.__new__") ⟨[.type "set", x], []⟩) (wants Q1 E) s := by
  refine codeAny_of_tree ?_
  show wpAny _ A.in1 (checkBuiltinCall "set.__new__" ⟨[.type "set", x], []⟩ >>= fun _ => again (.builtin "set.__new__" ⟨[.type "set", x], []⟩)) _ _ s
  refine wpAny_bind (wpAny_of_eq (PySem.F.newCall_set_1 x) (wpAny_pure ⟨plainId_quiet F.plain_set_new _, codeAny_builtin F.entry_set_new ?_⟩))
  rw [Around.under_plainId F.plain_set_new _]
  unfold Builtin.«set.__new__» Builtin.Frozenset.newClass
  have hsub := sub_set_self
  obtain ⟨hp, g, d, tk, os⟩ := s
  dsimp only
  wp_walk
  refine wpAny_askSetting (wpAny_pure ?_); dsimp only
  simp only [newObj]
  exact wpAny_bind (wpAny_alloc (wpAny_pure (wpAny_pure h)))
theorem call_tup {t : Addr} {items : Array Value} {ts : List Str} {Q : Value → Shared → Prop} (hh : A.handled = none) (ht : s.heap.IsTuple t items) (hi : StrsAre items.toList ts) (hb : ts.length + 1 < scanBound)
    (h : ∀ (h' : Heap) (tk : Nat), Is P w h' s.heap.objs.size (gath [] ts) → (∀ b o, b < s.heap.objs.size → s.heap.get? b = some o → h'.get? b = some o) → Q (.ref s.heap.objs.size) { s with heap := h', toks := tk }) :
    wpAny (model P w) A (call (.type "set") [.ref t]) Q E s := by
  obtain ⟨c, tl, hmro⟩ := F.called_set.mro
  have hmade := F.called_set.made
  have hsub := F.called_set.sub
  refine wpAny_call (codeAny_of_tree ?_)
  show wpAny _ _ (callAny (.type "set") _) _ _ _
  refine wpAny_pure ⟨Code.quiet_builtin _ (by decide +kernel), codeAny_builtin F.entry_type_call ?_⟩
  rw [Around.under_plain (weight_type_call_type "set" [.ref t] []) rfl]
  have h1 := F.called_set.notType
  have h2 := F.called_set.canCreate
  have hct := PySem.F.typeCall_set_1 (.ref t)
  repeat (any_goals (first | assumption | wp_step))
  refine codeAny_mono (make1 (.ref t) (E := E) (Q1 := fun obj s1 => obj = .ref s.heap.objs.size ∧ s1 = { s with heap := s.heap.push (fresh w) }) ⟨rfl, rfl⟩) fun r s1 hr => ?_
  cases r with
  | error e => exact hr
  | ok fl =>
    cases fl with
    | ret obj =>
      obtain ⟨rfl, rfl⟩ := hr
      have hS : (s.heap.push (fresh w)).get? s.heap.objs.size = some (fresh w) := Heap.get?_push_size _ rfl
      have hT : Shared.TypeIs { s with heap := s.heap.push (fresh w) } (.ref s.heap.objs.size) "set" := ⟨_, hS, rfl⟩
      have hli := F.called_set.init.lookup
      have hbi := F.called_set.init.bind (.ref s.heap.objs.size)
      repeat (any_goals (first | assumption | wp_step))
      refine codeAny_mono (codeAny_call_builtin (R := wants (fun r s2 => r = .none ∧ ∃ h' tk, s2 = { s with heap := h', toks := tk } ∧ Is P w h' s.heap.objs.size (gath [] ts) ∧
          (∀ b o, b < s.heap.objs.size → s.heap.get? b = some o → h'.get? b = some o)) E) F.called_set.init.plain F.entry_set_init (check_set_init_1 hT ?_)) fun r2 s2 hr2 => ?_
      · obtain ⟨ol, hol, hcl, nl, hdl⟩ := ht
        obtain ⟨ocls, odict, odata, oslots⟩ := ol
        simp only at hcl hdl
        subst hcl; subst hdl
        have hol' : (s.heap.push (fresh w)).get? t = some { cls := .type "tuple", dict := odict, data := .seq items nl, slots := oslots } := Heap.get?_push_of_some _ hol
        have hsls := F.sub_tuple_set
        have hslf := F.sub_tuple_frozenset
        have hne : (Value.type "tuple" == Value.type "dict") = false := by decide
        have hl1 : (s.heap.push (fresh w)).IsTuple t items := ⟨_, hol', rfl, nl, rfl⟩
        unfold Builtin.«set.__init__» noKeywords Builtin.Frozenset.updateFrom
        generalize hPI : pyIter = PI
        wp_walk
        subst hPI
        refine wpAny_pyIter_tuple hl1 ?_
        refine wpAny_bind (wpAny_runValue ?_)
        have hlS : t < s.heap.objs.size := Heap.lt_size hol
        have hh3 : A.in1.in1.in1.handled = none := by simp [hh]
        have hsz : (s.heap.push (fresh w)).objs.size = s.heap.objs.size + 1 := size_push' _ _
        have hneI : t ≠ (s.heap.push (fresh w)).objs.size := by rw [hsz]; exact Nat.ne_of_lt (Nat.lt_succ_of_lt hlS)
        have hnS : s.heap.objs.size ∉ [(s.heap.push (fresh w)).objs.size, t] := by
          rw [hsz]; simp only [List.mem_cons, List.not_mem_nil, or_false, not_or]; exact ⟨Nat.ne_of_lt (Nat.lt_succ_self _), Nat.ne_of_gt hlS⟩
        have hnw : s.heap.objs.size ∉ [(s.heap.push (fresh w)).objs.size] := by
          rw [hsz]; simp only [List.mem_cons, List.not_mem_nil, or_false]; exact Nat.ne_of_lt (Nat.lt_succ_self _)
        have hts : ts.length = items.size := by rw [← Array.length_toList]; exact (StrsAre.length hi).symm
        have hv : ∀ j k, ts[j]? = some k → ∀ v, items[0 + j]? = some v → ∃ u, v = .str k u := fun j k hk v hvj => by
          rw [Nat.zero_add] at hvj
          exact strs_at hi j k v hk (by rw [Array.getElem?_toList]; exact hvj)
        have hget : ((s.heap.push (fresh w)).push { cls := .type "tuple_iterator", data := .fields #[.ref t, .int 0 0] }).get? s.heap.objs.size = some (fresh w) := Heap.get?_push_of_some _ hS
        refine fill (Walks.tuple hh3 _ t hneI items) hnS hnw ts 0 _ [] (by rw [Nat.zero_add, hts]) hv (by simpa using hb) ⟨⟨_, Heap.get?_push_size _ rfl, rfl, rfl⟩, hl1.push _⟩ (is_fresh hget) fun h3 t3 k3 x3 => ?_
        show wpAny _ _ _ _ _ _
        refine wpAny_pure ?_
        show wpAny _ _ (ret Value.none) _ _ _
        refine wpAny_pure ⟨rfl, h3, t3, rfl, x3, fun b o hbl e => ?_⟩
        exact k3 b o (Nat.ne_of_lt hbl) (by rw [hsz]; simp only [List.mem_cons, List.not_mem_nil, or_false]; exact Nat.ne_of_lt (Nat.lt_succ_of_lt hbl)) (Heap.get?_push_of_some _ (Heap.get?_push_of_some _ e))
      · cases r2 with
        | error e => exact hr2
        | ok fl2 =>
          cases fl2 with
          | ret r =>
            obtain ⟨rfl, h', tk, rfl, x3, k3⟩ := hr2
            repeat (any_goals (first | assumption | wp_step))
            exact h _ _ x3 k3
          | _ => exact hr2.elim
    | _ => exact hr.elim
end
end Tx

/-! Tz: sorted(a set of texts). -/
namespace Tx
open PySem PySem.Spec PyProof.Rows L2 PySem.Froz
section
variable {P : Program} {w : World} {A : Around} {E : Value → Shared → Prop} {s : Shared} {a : Addr} {l : List Str}
theorem elems_str {es : List (Int × Value)} (F : ElemsOf (PySem.strKind P w) es) : ∀ v ∈ es.map (·.2), ∃ x t, v = .str x t := fun v hv => by
  obtain ⟨e, he, rfl⟩ := List.mem_map.mp hv
  obtain ⟨⟨k, hk, _⟩, _⟩ := F e he
  have hk' : Value.isStrOf k e.2 = true := hk
  cases h : e.2 with
  | str x t => exact ⟨x, t, rfl⟩
  | _ => rw [h] at hk'; simp [Value.isStrOf] at hk'
theorem sorted_tx {Q : Value → Shared → Prop} (x : Is P w s.heap a l) (hh : A.handled = none) (h64 : l.length < 64)
    (hQ : ∀ s' p (out : Array Value) (c : Nat) (ss : List Str), (∀ b o, s.heap.get? b = some o → s'.heap.get? b = some o) → s'.gens = s.gens → s'.os = s.os → s.heap.objs.size ≤ p →
      s'.heap.get? p = some (seqObj "list" out c) → StrsAre out.toList ss → ss.Perm l → sortedS ss = true → Q (.ref p) s') :
    wpAny (model P w) A (call (.builtin "sorted") [.ref a]) Q E s := by
  obtain ⟨D, ho, F, nd, r, ld, pl⟩ := x
  have hsz : D.1.size = l.length := F.sz
  have hb : D.1.size < scanBound := by rw [hsz]; exact Nat.lt_trans h64 (by decide)
  refine Calls.call_function_entry kind_sorted plain_sorted entry_sorted (args_sorted1 _) ?_
  unfold Builtin.«sorted»
  refine wpAny_bind (m := checkCount "sorted" 1 1 _) (wpAny_pure ?_)
  refine wpAny_bind (collect_set (A := A.in1) hh ⟨_, ho, rfl, rfl⟩ F.fit hb r ld fun s1 vs k1 hz g1 o1 pm => ?_)
  have hvl : vs.length = l.length := by rw [pm.length_eq, List.length_map, Array.length_toList, hsz]
  have hI : StrsAre vs (vs.map strOf) := strsAre_map vs fun v hv => elems_str F.el v (pm.mem_iff.mp hv)
  have pk : (vs.map strOf).Perm l := by
    refine (pm.map strOf).trans ?_
    rw [List.map_map]
    exact pl
  have hv64 : vs.length < 64 := by rw [hvl]; exact h64
  refine wpAny_bind (wpAny_newList ?_ (by rw [hvl, sizeLine_eq]; omega))
  have hoL : (s1.heap.push (seqObj "list" vs.toArray 0)).get? s1.heap.objs.size = some (seqObj "list" vs.toArray 0) := Heap.get?_push_size _ rfl
  refine wpAny_bind (wpAny_holding (wpAny_call_entry slot_list_sort ⟨_, hoL, rfl⟩ entry_list_sort
    (list_sort_treeK strKind_oneLt hoL hI.keysOf (fun v1 v2 rest e => keyKind_strs (by rw [← e]; exact hI)) hv64 fun st' hp hs => ⟨_, rfl, ?_⟩) (args_list_sort _)))
  obtain ⟨ss, a1, a2, a3⟩ := sorted_out_str hI hp hs
  obtain ⟨c, hc⟩ := sortedHeap_at (vs := vs) (out := (arrOf st').map (·.2)) hoL
  refine wpAny_pure ⟨_, rfl, hQ _ s1.heap.objs.size _ c ss (fun b u e => ?_) g1 o1 hz hc a1 (a2.trans pk) a3⟩
  have q := k1 b u e
  have hlt := Heap.lt_size q
  exact (sortedHeap_old (Nat.ne_of_lt hlt) (by rw [size_push']; exact Nat.lt_succ_of_lt hlt)).trans (Heap.get?_push_of_some _ q)
end
end Tx

/-! Tw: set(a tuple of texts), sorted(a set of texts): what the calls do. -/
namespace Tx
open PySem PySem.Spec PyProof.Rows L2 PySem.Froz
def TxO (P : Program) (w : World) (a : Addr) (l : List Str) : HO := .ext fun h => Is P w h a l
theorem txO_new {P : Program} {w : World} {H : Hp} {h : Heap} {a : Addr} {l : List Str} (x : Is P w h a l) : ObjOk P w H h a (TxO P w a l) :=
  ⟨x, (by obtain ⟨D, ho, _⟩ := x; exact ⟨_, ho⟩), fun _ _ p k => p.at k⟩
theorem strs_vals : ∀ {ts : List Str} {us : List Value}, Vals (ts.map V.str) us → StrsAre us ts
  | [], us, r => by cases r; exact .nil
  | x :: ts, us, r => by
    cases r with
    | cons h r =>
      obtain ⟨t, rfl⟩ := h
      exact .cons x t (strs_vals r)
theorem vals_strs : ∀ {us : List Value} {ts : List Str}, StrsAre us ts → Vals (ts.map V.str) us
  | _, _, .nil => .nil
  | _, _, .cons x t r => .cons ⟨t, rfl⟩ (vals_strs r)
def rSetTx (K : PySem.W.Frag) (P : Program) (w : World) : List V → Hp → VK → Prop := fun vs H Q => ∃ (t : Addr) (ts : List Str), vs = [V.ref t] ∧ SqT K H t (ts.map V.str) ∧ ts.length ≤ 60 ∧
  ∀ p, H p = none → Q (.ref p) (upd H p (TxO P w p (gath [] ts)))
def rSortTx (P : Program) (w : World) : List V → Hp → VK → Prop := fun vs H Q => ∃ (a : Addr) (l : List Str), vs = [V.ref a] ∧ H a = some (TxO P w a l) ∧ l.length < 64 ∧
  ∀ p ss, H p = none → ss.Perm l → sortedS ss = true → Q (.ref p) (upd H p (.lst (ss.map V.str)))
section
variable {X : Cx}
theorem cr_setTx (hc : X.calm = true) : CallR X (.type "set") (rSetTx X.K X.prog X.w) := by
  intro pins s σ H xs us Q I r h
  obtain ⟨t, ts, rfl, ht, hl, q⟩ := h
  rw [Vals.ref1 r]
  obtain ⟨its, rv, p1, _⟩ := I.tuple ht
  have hs : StrsAre its.toArray.toList ts := by simpa using strs_vals rv
  refine call_tup (P := X.prog) (w := X.w) (I.ok.hd hc) p1 hs (Nat.lt_of_le_of_lt (Nat.succ_le_succ hl) (by decide)) fun h' tk x k => ?_
  exact ⟨.ref s.heap.objs.size, upd H s.heap.objs.size (TxO X.prog X.w s.heap.objs.size (gath [] ts)), I.laid (t' := tk) (fun b u e => k b u (Heap.lt_size e) e) (Nat.le_refl _) (txO_new x), rfl, q _ (I.hok.fresh (Nat.le_refl _))⟩
theorem cr_sortTx (hc : X.calm = true) : CallR X (.builtin "sorted") (rSortTx X.prog X.w) := by
  intro pins s σ H vs us Q I r h
  obtain ⟨a, l, rfl, ha, h64, q⟩ := h
  rw [Vals.ref1 r]
  have x : Is X.prog X.w s.heap a l := (I.hok a _ ha).1
  refine sorted_tx x (I.ok.hd hc) h64 fun s' p out c ss k g o hp hg hs pm so => ?_
  have hn : H p = none := I.hok.fresh hp
  have hlen : (ss.map V.str).length ≤ sizeLine := by rw [List.length_map, pm.length_eq, sizeLine_eq]; omega
  exact ⟨.ref p, upd H p (.lst (ss.map V.str)), I.call' (ch := []) o (Un.laid k hp hn) (I.hok.laid k hp ⟨hlen, out.toList, c, vals_strs hs, hg⟩) (by rw [g]; exact I.bare) (fun _ z => nomatch z), rfl, q p ss hn pm so⟩
end
end Tx

/-! Mir27: sorted(set(a tuple of texts)). -/
namespace Mir
open PySem PySem.Spec PyProof.Rows L2 HT
def leS (a b : Str) : Prop := a.cps.toList ≤ b.cps.toList
theorem leS_trans {a b c : Str} (h : leS a b) (h' : leS b c) : leS a c := List.le_trans h h'
theorem leS_anti {a b : Str} (h : leS a b) (h' : leS b a) : a = b := by
  have e : a.cps.toList = b.cps.toList := List.le_antisymm h h'
  cases a; cases b
  simpa using e
theorem leS_of {a b : Str} (h : ltCps b.cps.toList a.cps.toList = false) : leS a b := by
  rw [ltCps_eq] at h
  exact List.not_lt.mp (of_decide_eq_false h)
theorem rising_pw : ∀ (p : Str) (l : List Str), risingS p l = true → (p :: l).Pairwise leS
  | p, [], _ => List.pairwise_singleton _ _
  | p, x :: r, h => by
    have h' : (!ltCps x.cps.toList p.cps.toList && risingS x r) = true := h
    rw [Bool.and_eq_true] at h'
    have h1 : leS p x := leS_of (by simpa using h'.1)
    have h2 := rising_pw x r h'.2
    refine List.pairwise_cons.mpr ⟨fun y hy => ?_, h2⟩
    rcases List.mem_cons.mp hy with z | z
    · rw [z]; exact h1
    · exact leS_trans h1 (List.rel_of_pairwise_cons h2 z)
theorem sorted_pw : ∀ l : List Str, sortedS l = true → l.Pairwise leS
  | [], _ => List.Pairwise.nil
  | x :: r, h => rising_pw x r h
def leB (a b : Str) : Bool := decide (a.cps.toList ≤ b.cps.toList)
/-- the texts of a list, each once, in order -/
def srtU (ts : List Str) : List Str := (Tx.gath [] ts).mergeSort leB
theorem srtU_pw (ts : List Str) : (srtU ts).Pairwise leS := by
  have h := List.pairwise_mergeSort (le := leB) (fun a b c x y => decide_eq_true (p := a.cps.toList ≤ c.cps.toList) (leS_trans (a := a) (b := b) (c := c) (of_decide_eq_true (p := a.cps.toList ≤ b.cps.toList) x) (of_decide_eq_true (p := b.cps.toList ≤ c.cps.toList) y))) (fun a b => by
    rcases List.le_total a.cps.toList b.cps.toList with z | z
    · rw [leB, decide_eq_true z]; rfl
    · rw [Bool.or_eq_true]; exact .inr (decide_eq_true z)) (Tx.gath [] ts)
  exact h.imp fun z => of_decide_eq_true z
theorem srtU_perm (ts : List Str) : (srtU ts).Perm (Tx.gath [] ts) := List.mergeSort_perm _ _
theorem srtU_of {ts ss : List Str} (pm : ss.Perm (Tx.gath [] ts)) (h : ss.Pairwise leS) : ss = srtU ts :=
  List.Perm.eq_of_pairwise (le := leS) (fun _ _ _ _ => leS_anti) h (srtU_pw ts) (pm.trans (srtU_perm ts).symm)
def txsOf : List D → Option (List Str)
  | [] => some []
  | .str x :: ds => (txsOf ds).map fun ts => x :: ts
  | _ => none
theorem txsOf_eq : ∀ {ds : List D} {ts : List Str}, txsOf ds = some ts → ds = ts.map D.str
  | [], ts, h => by cases h; rfl
  | d :: ds, ts, h => by
    cases d with
    | str x =>
      cases q : txsOf ds with
      | none => simp [txsOf, q] at h
      | some t2 =>
        simp [txsOf, q] at h
        rw [← h, List.map_cons, txsOf_eq q]
    | _ => simp [txsOf] at h
def sosG : D → Option D
  | .tup ds => match txsOf ds with
    | some ts => if ts.length ≤ 60 then some (.lst ((srtU ts).map D.str)) else none
    | none => none
  | _ => none
def sosM (fe : ME) : ME := fun ρ S => (fe ρ S).bind fun u S1 => match rd S1 u with
  | some d => match sosG d with
    | some z => .ok (.d z) S1
    | none => .un
  | none => .un
theorem rvs_tx {G : Gc} {e : List Addr} {H : Hp} : ∀ ts : List Str, RVs G e H (ts.map D.str) (ts.map V.str)
  | [] => .nil
  | x :: ts => .cons (.str x) (rvs_tx ts)
theorem tx_rvs {G : Gc} {e : List Addr} {H : Hp} : ∀ {ts : List Str} {xs : List V}, RVs G e H (ts.map D.str) xs → xs = ts.map V.str
  | [], xs, r => by cases r; rfl
  | x :: ts, xs, r => by
    cases r with
    | cons a r =>
      cases a
      rw [tx_rvs r]; rfl
theorem gath_len : ∀ (ts l : List Str), (Tx.gath l ts).length ≤ l.length + ts.length
  | [], l => Nat.le_refl _
  | k :: ts, l => by
    have h := gath_len ts (Tx.put l k)
    have h2 := Tx.put_len l k
    show (Tx.gath (Tx.put l k) ts).length ≤ _
    simp only [List.length_cons]
    omega
section
variable {X : Cx} {T : List (Addr × Str)} {W : WX} {e : Expr} {fe : ME} {p p2 pos pos2 : Pos}
theorem e_sos (hs : X.mg "sorted" = none) (ht : X.mg "set" = none) (he : PE X e (tE (gOf X T) W fe)) (hc : X.calm = true := by rfl) (hg : Gl X "sorted" := by rfl) (hg2 : Gl X "set" := by rfl)
    (h1 : starEach [Expr.Call (.Name "set" p2) [e] [] pos2] X.env = (false, eval (Expr.Call (.Name "set" p2) [e] [] pos2) X.env) :: starEach [] X.env := by rfl) (h2 : (backTo pos (starEach [] X.env)).any (·.1) = false := by rfl)
    (h3 : starEach [e] X.env = (false, eval e X.env) :: starEach [] X.env := by rfl) (h4 : (backTo pos2 (starEach [] X.env)).any (·.1) = false := by rfl) :
    PE X (.Call (.Name "sorted" p) [.Call (.Name "set" p2) [e] [] pos2] [] pos) (tE (gOf X T) W (sosM fe)) :=
  have inner : PE X (.Call (.Name "set" p2) [e] [] pos2) (tCB (Tx.rSetTx X.K X.prog X.w) (tCons (tE (gOf X T) W fe) tNil)) := pe_callTy (Tx.cr_setTx hc) hg2 ht (by decide +kernel) (pa_cons he pa_nil h3) (by decide) (by decide) h3 h4
  pe_mono (pe_callB (Tx.cr_sortTx hc) hg hs (by decide +kernel) (pa_cons inner pa_nil h1) (by decide) (by decide) h1 h2) fun σ H Q h => by
    obtain ⟨y, m, ρ, S, p0, h⟩ := h
    refine ⟨y, m, ρ, S, p0, (Post.bind h).mono fun u S1 m1 H1 E1 R1 ⟨_, _, h5⟩ v rv => ?_⟩
    have q1 := p0.ext E1 R1
    split at h5
    · rename_i d hd
      split at h5
      · rename_i z hz
        unfold sosG at hz
        split at hz
        · rename_i ds
          split at hz
          · rename_i ts hts
            split at hz
            · rename_i hl
              cases hz
              have rt := (RUs.rts R1 (.cons rv .nil) (show rds S1 [u] = some [.tup ds] by simp [rds, hd])).one
              obtain ⟨v', ev, rt⟩ := rt
              cases ev
              obtain ⟨a, xs, rfl, sq, rs⟩ := rt.tup
              have e2 := txsOf_eq hts
              subst e2
              have e3 := tx_rvs rs
              subst e3
              refine ⟨a, ts, rfl, sq, hl, fun p1 hp1 => ⟨p1, Tx.gath [] ts, rfl, upd_same, ?_, fun p3 ss hp3 pm so => ?_⟩⟩
              · have := gath_len ts []
                simp only [List.length_nil] at this
                omega
              · have es := srtU_of pm (sorted_pw ss so)
                subst es
                have n1 : Ext (gOf X T) m1 H1 m1 (upd H1 p1 (Tx.TxO X.prog X.w p1 (Tx.gath [] ts))) := Ext.new hp1
                have n2 : Ext (gOf X T) m1 (upd H1 p1 (Tx.TxO X.prog X.w p1 (Tx.gath [] ts))) m1 (upd (upd H1 p1 (Tx.TxO X.prog X.w p1 (Tx.gath [] ts))) p3 (.lst ((srtU ts).map V.str))) := Ext.new hp3
                refine h5 m1 _ (n1.trans n2) ((R1.new hp1).new hp3) _ (.d (RV.newLst (rvs_tx (srtU ts)) hp3 fun b hb => ?_))
                obtain ⟨o, ho⟩ := q1.trk b hb
                exact ⟨o, by rw [upd_ne (ne_of_none ho hp1)]; exact ho⟩
            · cases hz
          · cases hz
        · cases hz
      · exact h5.elim
    · exact h5.elim
end
/-- a function of which nothing is said -/
theorem ok_un1 {P : Program} {w : World} {K : PySem.W.Frag} {mg : Str → Option Value} {base : Heap} {CX : CXT} {G : Gc} {n p k : Nat} {f : Addr} {fd : FuncData} {ps : List Str} (hl : ps.length = n) : FnOk P w K mg base CX k f fd ps (sp1 G n p fun _ _ => .un) :=
  ⟨fun vs H Q E h => h.1.trans hl.symm, fun _ _ _ _ _ _ _ _ _ _ _ _ _ h => by
    obtain ⟨_, _, _, _, _, _, _, _, _, _, _, _, _, z⟩ := h
    exact z.elim⟩
theorem ok_un0 {P : Program} {w : World} {K : PySem.W.Frag} {mg : Str → Option Value} {base : Heap} {CX : CXT} {G : Gc} {n k : Nat} {f : Addr} {fd : FuncData} {ps : List Str} (hl : ps.length = n) : FnOk P w K mg base CX k f fd ps (sp0 G n fun _ => .un) :=
  ⟨fun vs H Q E h => h.1.trans hl.symm, fun _ _ _ _ _ _ _ _ _ _ _ _ _ h => by
    obtain ⟨_, _, _, _, _, _, z⟩ := h
    exact z.elim⟩
end Mir

/-! Mir32: t[::-1] of a tuple. -/
namespace Mir
open PySem PySem.Spec PyProof.Rows L2 HT
section
variable {prog : Program} {w : World} {A : Around} {E : Value → Shared → Prop} {s : Shared}
theorem applied_back {sl : Addr} {n : Nat} {u : Tok} {Q : Int × Int × Nat → Shared → Prop} (hs : s.heap.IsSliceOf sl .none .none (.int (-1) u)) (h : Q ((n : Int) - 1, -1, n) s) :
    wpAny (model prog w) A (Builtin.Slice.sliceApplied (.ref sl) (pure (n : Int))) Q E s := by
  obtain ⟨os, ho, hc, hd⟩ := id hs
  have ea : Builtin.Slice.sliceAdjust none none (-1) (n : Int) = ((n : Int) - 1, -1) := rfl
  have ep : Builtin.Slice.slicePlaces ((n : Int) - 1) (-1) (-1) = n := by
    unfold Builtin.Slice.slicePlaces
    have h1 : ¬ ((-1 : Int) > 0) := by omega
    simp only [h1, if_false]
    split
    · have e : ((n : Int) - 1 - -1 - 1) / -(-1) + 1 = n := by
        have e1 : -(-1 : Int) = 1 := rfl
        rw [e1, Int.ediv_one]; omega
      rw [e]; rfl
    · omega
  unfold Builtin.Slice.sliceApplied Builtin.Slice.sliceFields
  refine wpAny_bind (wpAny_bind (wpAny_field ho hd (x := .none) rfl (wpAny_bind (wpAny_field ho hd (x := .none) rfl (wpAny_bind (wpAny_field ho hd (x := .int (-1) u) rfl (wpAny_pure ?_)))))))
  refine wpAny_bind (slicePart_int ?_)
  show wpAny _ _ (if ((-1 : Int) == 0) = true then _ else _) _ _ s
  rw [if_neg (by decide)]
  refine wpAny_bind (slicePart_none (wpAny_bind (slicePart_none (wpAny_bind (wpAny_pure ?_)))))
  show wpAny _ _ (match Builtin.Slice.sliceAdjust none none (-1) (n : Int) with | (a, b) => pure (a, (-1 : Int), Builtin.Slice.slicePlaces a b (-1))) _ _ s
  rw [ea]
  show wpAny _ _ (pure ((n : Int) - 1, (-1 : Int), Builtin.Slice.slicePlaces ((n : Int) - 1) (-1) (-1))) _ _ s
  rw [ep]
  exact wpAny_pure h
theorem fm_map {α β : Type} (f : α → Option β) (g : α → β) : ∀ l : List α, (∀ m ∈ l, f m = some (g m)) → l.filterMap f = l.map g
  | [], _ => rfl
  | x :: l, h => by
    rw [List.filterMap_cons, h x List.mem_cons_self, List.map_cons, fm_map f g l fun m hm => h m (List.mem_cons_of_mem _ hm)]
theorem pick_back (xs : Array Value) : ((List.range xs.size).filterMap fun (m : Nat) => xs[(((xs.size : Nat) : Int) - 1 + (m : Int) * -1).toNat]?).toArray = xs.toList.reverse.toArray := by
  congr 1
  apply List.ext_getElem?
  intro i
  have e : (List.range xs.size).filterMap (fun (m : Nat) => xs[(((xs.size : Nat) : Int) - 1 + (m : Int) * -1).toNat]?) = (List.range xs.size).map fun m => xs.toList.getD (xs.size - 1 - m) .none := by
    refine fm_map _ _ _ fun m hm => ?_
    have hm' := List.mem_range.mp hm
    have e1 : (((xs.size : Nat) : Int) - 1 + (m : Int) * -1).toNat = xs.size - 1 - m := by omega
    rw [e1]
    have h2 : xs.size - 1 - m < xs.size := by omega
    simp [h2, List.getD_eq_getElem?_getD]
  rw [e]
  by_cases hi : i < xs.size
  · rw [List.getElem?_map, List.getElem?_range hi, List.getElem?_reverse (by simpa using hi)]
    have h2 : xs.size - 1 - i < xs.size := by omega
    simp [h2, List.getD_eq_getElem?_getD]
  · rw [List.getElem?_eq_none (by simp; omega), List.getElem?_eq_none (by simp; omega)]
theorem getItem_back {t sl : Addr} {items : Array Value} {u : Tok} {Q : Value → Shared → Prop} (ht : IsTup s.heap t items) (hs : s.heap.IsSliceOf sl .none .none (.int (-1) u))
    (h : Q (.ref s.heap.objs.size) { s with heap := s.heap.push { cls := .type "tuple", data := .seq items.toList.reverse.toArray } }) (hz : items.size ≤ sizeLine) : wpAny (model prog w) A (getItem (.ref t) (.ref sl)) Q E s := by
  have hok : sizeOk (.seq items.toList.reverse.toArray) := by
    show items.toList.reverse.toArray.size ≤ sizeLine
    simpa using hz
  obtain ⟨os, ho, hc, hd⟩ := id hs
  have hT : s.TypeIs (.ref sl) "slice" := ⟨os, ho, hc⟩
  unfold getItem
  try with_reducible refine wpAny_holding ?_
  first | refine wpAny_bind (wpAny_pure ?_) | skip
  refine wpAny_bind (wpAny_sequenceKey ht.typeIs (by decide) (wpAny_bind (wpAny_callSpecial?_slot (name := Str.ofString "__getitem__") ht.typeIs PyProof.Rows.slot_tuple_getitem
    (wpAny_call_entry PyProof.Rows.slot_tuple_getitem ht.typeIs entry_tuple_getitem ?_ (args_tuple_getitem _ _)))))
  show wpAny _ _ (Builtin.Tuple.tupleItemsOf (.ref t) >>= _) _ _ s
  refine wpAny_bind (tupleItemsOf_ ht (wpAny_bind (wpAny_typeOf hT ?_)))
  rw [if_pos (by decide)]
  refine wpAny_bind (applied_back hs ?_)
  have hno : ¬ ((((items.size : Nat) : Int) - 1 == 0 && (-1 : Int) == 1 && items.size == items.size) = true) := by simp
  show wpAny _ _ (if (((items.size : Nat) : Int) - 1 == 0 && (-1 : Int) == 1 && items.size == items.size) = true then _ else _) _ _ s
  rw [if_neg hno, pick_back]
  first
    | exact wpAny_bind (m := Builtin.Tuple.tupleExact _) (wpAny_newObj_type (wpAny_pure ⟨_, rfl, wpAny_pure h⟩) hok)
    | exact wpAny_bind (m := Builtin.Tuple.tupleExact _) (wpAny_newObj_type (wpAny_bind (wpAny_pure (wpAny_pure ⟨_, rfl, wpAny_pure h⟩))) hok)
    | exact wpAny_bind (wpAny_bind (m := Builtin.Tuple.tupleExact _) (wpAny_newObj_type (wpAny_pure (wpAny_pure ⟨_, rfl, wpAny_pure h⟩)) hok))
    | exact wpAny_bind (wpAny_bind (m := Builtin.Tuple.tupleExact _) (wpAny_newObj_type (wpAny_pure ⟨_, rfl, wpAny_pure h⟩) hok))
end
section
variable {X : Cx} {e st : Expr} {te ts : TE} {pos p2 : Pos} {T : List (Addr × Str)} {W : WX} {fe : ME}
def tBack (K : PySem.W.Frag) (te ts : TE) : TE := fun σ H Q => te σ H fun x H1 => ts σ H1 fun k H2 => ∃ a xs, x = .ref a ∧ k = .int (-1) ∧ SqT K H2 a xs ∧ ∀ p, H2 p = none → Q (.ref p) (upd H2 p (.tup xs.reverse))
theorem pe_back (he : PE X e te) (hs : PE X st ts) : PE X (.Subscript e (.Slice none none (some st) p2) pos) (tBack X.K te ts) := by
  refine ⟨fun pins s σ H Q I h => ?_⟩
  refine Subscript_ (thn (he.run pins s σ H _ I h) fun v s1 ⟨x, H1, I1, r1, q1⟩ => ?_)
  refine wpAny_Slice ?_
  rw [evalPart_none, evalPart_some]
  refine wpAny_pure (wpAny_pure (thn (hs.run pins s1 σ H1 _ I1 q1) fun vk s2 ⟨k, H2, I2, rk, a, xs, ex, ek, sq, q2⟩ => ?_))
  subst ex ek
  obtain ⟨u, rfl⟩ := rk
  cases r1
  have I3 : Inv X pins σ H2 { s2 with heap := s2.heap.push { cls := .type "slice", data := .fields #[.none, .none, .int (-1) u] } } := I2.kept (t' := s2.toks) fun b ob q => Heap.get?_push_of_some _ q
  obtain ⟨its, rv, tp, hz⟩ := I3.tuple sq
  have hz' : its.toArray.size ≤ sizeLine := by
    have := hz
    simpa [← rv.length] using this
  show wpAny (model X.prog X.w) X.A (subscriptTail e (.Slice none none (some st) p2) (.ref a) (.ref s2.heap.objs.size)) (EP X pins σ Q) X.xe { s2 with heap := s2.heap.push { cls := .type "slice", data := .fields #[.none, .none, .int (-1) u] } }
  refine tail_any (ops := [.ref a, .ref s2.heap.objs.size]) tp.typeIs PyProof.Rows.slot_tuple_getitem.lookup (getItem_back tp (Heap.IsSliceOf.new ..) ?_ hz') (by with_unfolding_all rfl)
  refine ⟨.ref _, _, I3.laid (a := (s2.heap.push { cls := .type "slice", data := .fields #[.none, .none, .int (-1) u] }).objs.size) (o := .tup xs.reverse) (t' := s2.toks) (fun _ _ q => Heap.get?_push_of_some _ q) (Nat.le_refl _) ⟨by rw [List.length_reverse]; simpa using hz, its.reverse, rv.reverse, ?_⟩, rfl, q2 _ (I3.hok.fresh (Nat.le_refl _))⟩
  have := IsTup.new (s2.heap.push { cls := .type "slice", data := .fields #[.none, .none, .int (-1) u] }) its.toArray.toList.reverse.toArray
  simpa using this
def revG : D → Option D
  | .tup ds => some (.tup ds.reverse)
  | _ => none
def revM (fe : ME) : ME := fun ρ S => (fe ρ S).bind fun u S1 => match rd S1 u with
  | some d => match revG d with
    | some z => .ok (.d z) S1
    | none => .un
  | none => .un
theorem rvs_rev {G : Gc} {e : List Addr} {H : Hp} : ∀ {ds : List D} {xs : List V}, RVs G e H ds xs → RVs G e H ds.reverse xs.reverse
  | [], xs, r => by cases r; exact .nil
  | d :: ds, xs, r => by
    cases r with
    | cons a r =>
      rw [List.reverse_cons, List.reverse_cons]
      exact (rvs_rev r).append (.cons a .nil)
theorem e_rev (ha : PE X e (tE (gOf X T) W fe)) (hst : PE X st (tE (gOf X T) W (op1M negG (conM (.int 1)))) := by exact e_un o_neg e_int) : PE X (.Subscript e (.Slice none none (some st) p2) pos) (tE (gOf X T) W (revM fe)) :=
  pe_mono (pe_back ha hst) fun σ H Q h => by
    obtain ⟨y, m, ρ, S, p0, h⟩ := h
    refine ⟨y, m, ρ, S, p0, (Post.bind h).mono fun u S1 m1 H1 E1 R1 ⟨_, _, h5⟩ v rv => ?_⟩
    have q1 := p0.ext E1 R1
    split at h5
    · rename_i d hd
      split at h5
      · rename_i z hz
        unfold revG at hz
        split at hz
        · rename_i ds
          cases hz
          refine ⟨y, m1, ρ, S1, q1, ?_⟩
          show Post (gOf X T) W y m1 σ H1 (O.ok (U.d (D.int (-1))) S1) _
          intro m2 H2 E2 R2 k rk
          have rt := ((RUs.rts R2 (.cons (rv.ext E2) .nil) (show rds S1 [u] = some [.tup ds] by simp [rds, hd])).one)
          obtain ⟨v', ev, rt⟩ := rt
          cases ev
          obtain ⟨a, xs, rfl, sq, rs⟩ := rt.tup
          cases rk with
          | d rk =>
            cases rk
            have q2 := q1.ext E2 R2
            refine ⟨a, xs, rfl, rfl, sq, fun p1 hp1 => ?_⟩
            exact h5 m2 _ (E2.trans (Ext.new hp1)) (R2.new hp1) _ (.d (RV.newTup (rvs_rev rs) hp1 fun b hb => q2.trk b hb))
        · cases hz
      · exact h5.elim
    · exact h5.elim
end
end Mir

/-! Mir33: exceptions with an attribute: made by their own __init__, caught with a name. -/
namespace Mir
open PySem PySem.Spec PyProof.Rows L2 RZ LamX
/-! ### R.__init__(self, ..), R a class of the program over ValueError -/
section
variable {X : Cx} {e : Expr} {es : List Expr} {ta : TA} {R : Addr} {mc : Value} {x : Str} {p1 p2 pos : Pos}
theorem pe_ceinit {pl : Sem Bool} (gx : Gl X x) (mx : X.mg x = some (.ref R)) (cr : ClX.CRead X.K R mc) (cv : PySem.W.findCls X.K (.ref R) mc "__init__" = some (.val (.builtin "ValueError.__init__"))) (ha : PA X (e :: es) ta) (dx : (x == ("__debug__" : Str)) = false := by decide)
    (ec : eval (.Call (.Attribute (.Name x p1) "__init__" p2) (e :: es) [] pos) X.env = (do let ov ← eval (.Name x p1) X.env; standAt p2.atName; let (f, first) ← holding [ov] (getMethod ov "__init__" pl); callWith pos f first (backTo pos (starEach (e :: es) X.env)) (backToKw pos (keywordEach [] X.env))) := by rfl)
    (e1 : starEach (e :: es) X.env = (false, eval e X.env) :: starEach es X.env := by rfl) (e2 : (backTo pos (starEach es X.env)).any (·.1) = false := by rfl) : PE X (.Call (.Attribute (.Name x p1) "__init__" p2) (e :: es) [] pos) (tVeI X.K ta) := ⟨fun pins s σ H Q I h => by
  refine PySem.W.methodCall_KW (ld_glob I gx mx ?_ dx) ec
  refine PySem.W.method_cls I.kIn cr.ga (PySem.W.cls_value I.kIn cr.rd cv rfl ?_)
  show wpAny _ _ (callWith pos (.builtin "ValueError.__init__") [] (backTo pos (starEach (e :: es) X.env)) []) _ _ _
  refine PyProof.Rows.callWith_method1 (thn (ha.run pos pins _ σ H _ (I.tok _) h) fun us s1 hz => ?_) e1 e2
  obtain ⟨vs, H1, J, r1, a, C, ws, ev, hl, T, ea, q⟩ := hz
  subst ev
  cases r1 with
  | @cons _ u0 _ ur ra rw' =>
    obtain rfl : u0 = Value.ref a := ra
    exact oinit_ok T J ea (by rw [← Paired.length rw', sizeLine_eq]; omega) fun s' J' => ⟨.non, H1, J', rfl, q⟩⟩
end
/-- what __init__(self, v) of such a class does: ValueError.__init__(self, ..), then self.f = v -/
def spIni (K : PySem.W.Frag) (f : Str) : Sp := fun vs H Q _ => ∃ (a C : Addr) (v : V), vs = [.ref a, v] ∧ OexC K C ∧ PySem.W.findIn K (.ref C) f = some none ∧ H a = some (exo a C none) ∧
  ∀ dx, H dx = none → dx ≠ a → Q .non (upd (upd H dx (exd dx [(f, v)])) a (exo a C (some dx)))
section
variable {P : Program} {w : World} {K : PySem.W.Frag} {mg : Str → Option Value} {base : Heap} {x qual : Str} {st : Stmt} {f : Addr} {fd : FuncData} {N ps : List Str} {k : Nat}
def tIni (K : PySem.W.Frag) (m fl : Str) : TS := tSeq (tDrop (tVeI K (tCons (tVar 0) (tCons (tC (.str m)) tNil)))) (tOst K fl (tVar 0) (tVar 1))
theorem ini_ok {s v m fl : Str} (F : Fun K x qual st f fd) (S : FnScope [s, v] [s, v] (defScope st))
    (D : ∀ (cdv : Value) (A : Around) (outer : List PySem.Env) (z : Shared) (H : Hp) (E : XK), PSs (bodyX P w K mg base [s, v] qual st f cdv A outer z H E) (defBody st) (tIni K m fl)) : FnOk P w K mg base (L2.CX P w) (k + 1) f fd [s, v] (spIni K fl) := by
  refine F.okX S (fun vs H Q E ⟨_, _, _, e, _⟩ => by rw [e]; rfl) fun cdv A outer z H vs Q E hr hsp => ⟨_, D cdv A outer z H E, ?_⟩
  obtain ⟨a, C, y, rfl, T, hno, ea, q⟩ := hsp
  refine ⟨_, rfl, a, C, [.str m], rfl, by simp, T, ea, ?_⟩
  refine ⟨_, rfl, _, rfl, a, C, rfl, T, hno, .inl ⟨ea, fun dx n ne => q dx n ne⟩⟩
end
/-- a class of exceptions with its own __init__ of one argument that it keeps -/
structure XI (G : Gc) (base : Heap) (k : Nat) (x fl : Str) : Prop where
  ex : ∃ (C fI : Addr) (fd : FuncData) (ps : List Str), G.mg x = some (.ref C) ∧ OexC G.K C ∧ PySem.W.findIn G.K (.ref C) fl = some none ∧ PySem.W.findIn G.K (.ref C) "__init__" = some (some (.ref fI)) ∧ PySem.W.typeIn G.K (.ref fI) = some (.type "function") ∧
    FnOk G.P G.w G.K G.mg base (L2.CX G.P G.w) k fI fd ps (spIni G.K fl) ∧ Binds G.K fd ps []
def raiF (x fl : Str) (fe : ME) : MS := fun ρ S => match fe ρ S with
  | .ok (.d d) S' => .ex { cls := x, fs := some [(fl, d)] } ρ S'
  | .ok _ _ => .un
  | .ex e S' => .ex e ρ S'
  | .un => .un
section
variable {X : Cx} {T : List (Addr × Str)} {W : WX} {e : Expr} {fe : ME} {k : Nat} {x fl : Str} {p ps pos : Pos}
theorem passN : Passes (L2.CX X.prog X.w) X (fun _ _ _ => False) := fun _ _ _ _ _ _ _ h => by
  unfold L2.CX at h
  grind
theorem s_raiF (h : XI (gOf X T) X.base k x fl) (hr : Room (k + 1) X.A) (hc : X.calm = true) (tk : Takes X W) (he : PE X e (tE (gOf X T) W fe)) (hg : Gl X x := by rfl) (hdb : (x == ("__debug__" : Str)) = false := by decide)
    (e1 : starEach [e] X.env = (false, eval e X.env) :: starEach [] X.env := by rfl) (e2 : (backTo ps (starEach [] X.env)).any (·.1) = false := by rfl) :
    PS X (.Raise (some (.Call (.Name x p) [e] [] ps)) none pos) (tS (gOf X T) W (raiF x fl fe)) := by
  obtain ⟨C, fI, fd, qs, h1, h2, h3, h4, h5, h6, h7⟩ := h.ex
  refine ps_mono (ps_raise hc tk (pmk_oex (dvs := []) h2 h4 h5 h6 hr h7 .nil passN hg h1 (a_cons he a_nil e1) hdb e1 e2)) fun Dn σ H h => ?_
  obtain ⟨y, m, ρ, S, q, h⟩ := h
  refine ⟨y, m, ρ, S, q, ?_⟩
  unfold raiF at h
  cases z : fe ρ S with
  | un => rw [z] at h; exact h.elim
  | ex ee S' =>
    rw [z] at h
    simp only [argsM, z, O.bind]
    exact fun m' H' cls d E R rx => h m' H' σ cls d E (q.ext E R) rx
  | ok u S' =>
    rw [z] at h
    simp only [argsM, z, O.bind]
    intro m1 H1 E1 R1 vs rvs
    refine ⟨by rw [← RUs.length rvs]; simp, fun a na => ?_⟩
    cases rvs with
    | cons r t =>
      cases t
      cases r with
      | c _ => exact h.elim
      | t _ _ => exact h.elim
      | d r =>
        rename_i v d
        refine ⟨a, C, v, rfl, h2, h3, upd_same, fun dx nd ne => ⟨rfl, dx, [(fl, v)], upd_same, by rw [upd_ne ne, upd_same], ?_, ?_⟩⟩
        · rw [upd_ne ne] at nd; exact nd
        · have n1 : H1 dx = none := by rw [upd_ne ne] at nd; exact nd
          have eq : upd (del (upd (upd (upd H1 a (exo a C none)) dx (exd dx [(fl, v)])) a (exo a C (some dx))) a) dx (.xd [(fl, v)]) = upd H1 dx (.xd [(fl, v)]) := by
            funext b
            by_cases hb : b = dx
            · rw [hb, upd_same, upd_same]
            · rw [upd_ne hb, upd_ne hb]
              by_cases hba : b = a
              · rw [hba, del_same, na]
              · rw [del_ne hba, upd_ne hba, upd_ne hb, upd_ne hba]
          rw [eq]
          have p1 := q.ext E1 R1
          have E2 : Ext (gOf X T) m1 H1 m1 (upd H1 dx (.xd [(fl, v)])) := Ext.new n1
          exact h m1 _ σ (.ref C) (some dx) (E1.trans E2) (p1.ext E2 (R1.new n1)) ⟨C, rfl, h1, dx, [(fl, v)], rfl, upd_same, .cons (r.keep E2.kp) .nil⟩
end
end Mir

/-! Mir34: several except clauses, some with a name. -/
namespace Mir
open PySem PySem.Spec PyProof.Rows L2 RZ LamX
/-- a clause's ends where its name (slot i) goes -/
def endsAs (i : Nat) (D : Ends) : Ends where
  nx := fun σ H => D.nx (σ.set i none) H
  rt := D.rt
  bk := fun σ H => D.bk (σ.set i none) H
  ct := fun σ H => D.ct (σ.set i none) H
inductive HdsA (X : Cx) : List ExceptHandler → List (Value × (Addr → Value → Option Addr → TS)) → Prop
  | nil : HdsA X [] []
  | plain {y : Str} {c : Value} {t : Addr → Value → Option Addr → TS} {b1 : Stmt} {bs : List Stmt} {q1 q2 : Pos} {hs : List ExceptHandler} {l : List (Value × (Addr → Value → Option Addr → TS))} (cn : Names X y c)
      (sb : ∀ (a : Addr) (o : Obj) (k : Value) (d : Option Addr) (pn : List (Addr × Obj)), Zc k d o → (∃ vs, o.data = .fields vs) → PSs (X.suite a ((a, o) :: pn)) (b1 :: bs) (t a k d)) (r : HdsA X hs l) :
      HdsA X (.ExceptHandler (some (.Name y q1)) none (b1 :: bs) q2 :: hs) ((c, t) :: l)
  | named {y n : Str} {i : Nat} {c : Value} {t : Addr → Value → Option Addr → TS} {b1 : Stmt} {bs : List Stmt} {q1 q2 : Pos} {hs : List ExceptHandler} {l : List (Value × (Addr → Value → Option Addr → TS))} (nd : X.N.Nodup) (ni : X.N[i]? = some n) (nl : X.env.kindOf n = some .local) (cn : Names X y c)
      (sb : ∀ (a : Addr) (o : Obj) (k : Value) (d : Option Addr) (pn : List (Addr × Obj)), Zc k d o → (∃ vs, o.data = .fields vs) → PSs (X.suite a ((a, o) :: pn)) (b1 :: bs) (t a k d)) (r : HdsA X hs l) :
      HdsA X (.ExceptHandler (some (.Name y q1)) (some n) (b1 :: bs) q2 :: hs) ((c, fun a k d D σ H => i < σ.length → t a k d (endsAs i D) (σ.set i (some (.ref a))) H) :: l)
section
variable {X : Cx} {body : List Stmt} {hd0 : ExceptHandler} {hds : List ExceptHandler} {l : List (Value × (Addr → Value → Option Addr → TS))} {pos : Pos} {tb : WX → TS} {Wo : WX}
theorem ps_tryA (st1 : X.stack = X.env :: X.outer) (fr1 : X.env.frame = some X.env.locals) (tk : Takes X Wo)
    (hb : ∀ (Wi : WX) (pn : List (Addr × Obj)) (xe : Value → Shared → Prop), Takes (X.tr pn xe) Wi → PassesOwn (model X.prog X.w) X.A X.env xe → PSs (X.tr pn xe) body (tb Wi))
    (hh : HdsA X (hd0 :: hds) l) : PS X (.Try body (hd0 :: hds) [] [] pos) (fun D σ H => tb (wMany X.K Wo D l) D σ H) := ⟨fun pins s σ H D I h => by
  have ok := I.ok
  have frA : X.A.frames = some (X.env :: X.outer) := ok.frames.trans (congrArg some st1)
  refine wpAny_Try_except (wpAny_mono ((hb (wMany X.K Wo D l) (X.pn ++ pins) (fun e z1 => wpAny (model X.prog X.w) X.A (noteFrame e X.env) (fun _ z2 => wpAny (model X.prog X.w) X.A (setFlight e none) (fun _ z3 =>
    wpAny (model X.prog X.w) X.A (handleBy e X.env (hd0 :: hds)) (SP X pins D) X.xe z3) X.xe z2) X.xe z1) (fun u z0 xx => ?_) PassesOwn.looking).run [] s σ H D (I.toTry _) h) (fun fl z hsp => ?_) fun e z he => he)
  · obtain ⟨a, B, sI, pins', τ, J0, k, d, rfl, I0, bare, up0, sky, fresh, os, ag, w⟩ := xx
    have I1 : Inv X pins τ J0 sI := I0.ofTry ok
    have sky1 : Sky B (X.env :: X.outer) a (Zc k d) X.env.locals z0.heap := st1 ▸ sky
    show wpAny (model X.prog X.w) X.A (noteFrame (.ref a) X.env) _ _ _
    refine Sky.land Zc.steady frA fr1 sky1 fun g fg ug => ?_
    have I2 : Inv X pins τ J0 { z0 with heap := g } := I1.landed bare fg.1 (up0.trans ug) os ag
    obtain ⟨o2, vs2, at2, zc2, dt2⟩ := fg.there
    have out : a ∉ frs (X.env :: X.outer) := fun hm => by
      obtain ⟨_, o', e', hnf⟩ := fg.2.2.1.mem hm
      cases e'.symm.trans at2
      exact hnf _ dt2
    have outL : a ≠ X.env.locals := fun q => out (List.mem_filterMap.mpr ⟨_, List.mem_cons_self, fr1.trans (congrArg some q.symm)⟩)
    have outF : a ∉ X.fs := fun q => out (by
      obtain ⟨e, he, q2⟩ := List.mem_filterMap.mp q
      exact List.mem_filterMap.mpr ⟨e, List.mem_cons_of_mem _ he, q2⟩)
    have S2 := I2.suite at2 dt2 fresh outL outF
    have go : ∀ {hs : List ExceptHandler} {l' : List (Value × (Addr → Value → Option Addr → TS))}, HdsA X hs l' → wMany X.K Wo D l' k d τ J0 → wpAny (model X.prog X.w) X.A (handleBy (.ref a) X.env hs) (SP X pins D) X.xe { z0 with heap := g } := by
      intro hs l' hk
      have Lt : PySem.W.Looks (model X.prog X.w) g (typeOf (.ref a)) k := fun A Q E s k' q => wpAny_typeOf_ref (k' _ _ at2) (by rw [zc2.1]; exact q)
      have tst : ∀ {c : Value} {y : Str} {np : Pos} {Q : Value → Shared → Prop} {E : Value → Shared → Prop}, Names X y c → Q c { z0 with heap := g } → wpAny (model X.prog X.w) (X.A.mark (some (.ref a))) (eval (.Name y np) X.env) Q E { z0 with heap := g } := by
        intro c y np Q E ⟨hg, hdbg, hm⟩ q
        rcases hm with hm | ⟨hm, hv, hnn⟩
        · exact ld_glob (X := X.suite a ((a, o2) :: (X.pn ++ pins))) S2 hg hm q hdbg
        · exact ld_blt (X := X.suite a ((a, o2) :: (X.pn ++ pins))) S2 hg hm hv q hnn hdbg
      induction hk with
      | nil =>
        intro w
        refine wpAny_handleBy_nil ?_
        obtain ⟨r1, r2, r3, o5, vs5, T5, oT5, ts5, e5, z5, d5, i5, rest5⟩ := id fg
        unfold PySem.passOn
        refine wpAny_bind (wpAny_field e5 d5 i5 ?_)
        rw [if_neg (fun q : (Value.ref T5 == Value.none) = true => by simp at q)]
        have fin : wpAny (model X.prog X.w) X.A (setFlight (.ref a) X.env.frame) (fun _ z4 => wpAny (model X.prog X.w) X.A (throw (.ref a) : Sem Flow) (SP X pins D) X.xe z4) X.xe { z0 with heap := g } := by
          rw [fr1]
          exact HandSPX.setFlight_upZ fg fun g4 hg4 u4 => wpAny_throw (tk _ _ ⟨a, B, sI, pins, τ, J0, k, d, rfl, I1, bare, (up0.trans ug).trans u4, .inr (.inr (st1 ▸ hg4)), fresh, os, ag, w⟩)
        first
          | exact wpAny_bind (wpAny_pure (wpAny_bind fin))
          | exact wpAny_bind fin
      | @plain y c t b1 bs q1 q2 hs l cn sb r ih =>
        rintro ⟨b, w1, w2, w3⟩
        refine wpAny_handleBy_cons (codeAny_handlers_test ?_) (fun q => by cases q)
        refine tst cn ((PySem.W.exm_one (M := model X.prog X.w) I2.kIn Lt w1).here ?_)
        cases b with
        | false => exact ih (w3 rfl)
        | true =>
          refine codeAny_handlers_suite (HandSPX.lands_againZ fg fun g4 f4 u4 => ?_)
          have I4 : Inv X pins τ J0 { z0 with heap := g4 } := I1.landed bare f4.1 ((up0.trans ug).trans u4) os ag
          obtain ⟨o4, vs4, at4, zc4, dt4⟩ := f4.there
          refine wpAny_mono ((sb a o4 k d (X.pn ++ pins) zc4 ⟨_, dt4⟩).run [] _ _ J0 _ (I4.suite at4 dt4 fresh outL outF) (w2 rfl a fresh)) (fun f z6 q6 => ?_) (fun _ _ q => False.elim q)
          cases f with
          | next => exact let ⟨τ6, J6, S6, q⟩ := q6; ⟨τ6, J6, S6.unsuite ok, q⟩
          | brk => exact let ⟨τ6, J6, S6, q⟩ := q6; ⟨τ6, J6, S6.unsuite ok, q⟩
          | cont => exact let ⟨τ6, J6, S6, q⟩ := q6; ⟨τ6, J6, S6.unsuite ok, q⟩
          | ret u => exact let ⟨v6, τ6, J6, S6, r6, q⟩ := q6; ⟨v6, τ6, J6, S6.unsuite ok, r6, q⟩
      | @named y n i c t b1 bs q1 q2 hs l nd ni nl cn sb r ih =>
        rintro ⟨b, w1, w2, w3⟩
        refine wpAny_handleBy_cons (codeAny_handlers_test ?_) (fun q => by cases q)
        refine tst cn ((PySem.W.exm_one (M := model X.prog X.w) I2.kIn Lt w1).here ?_)
        cases b with
        | false => exact ih (w3 rfl)
        | true =>
          refine codeAny_handlers_suite_as (HandSPX.lands_againZ fg fun g4 f4 u4 => ?_)
          have I4 : Inv X pins τ J0 { z0 with heap := g4 } := I1.landed bare f4.1 ((up0.trans ug).trans u4) os ag
          obtain ⟨o4, vs4, at4, zc4, dt4⟩ := f4.there
          refine store_ok (X := X.suite a ((a, o4) :: (X.pn ++ pins))) (v := .ref a) (I4.suite at4 dt4 fresh outL outF) nd ni (.inl nl) rfl (fun z5 S5 => ?_) (.inr nl)
          refine wpAny_mono ((sb a o4 k d (X.pn ++ pins) zc4 ⟨_, dt4⟩).run [] z5 _ J0 _ S5 (w2 rfl a fresh (by rw [I1.len]; exact (List.getElem?_eq_some_iff.mp ni).1))) (fun f z6 q6 => ?_) (fun _ _ q => False.elim q)
          have gone : ∀ {τ6 : L2.St} {J6 : Hp} {Q : Shared → Prop}, Inv (X.suite a ((a, o4) :: (X.pn ++ pins))) [] τ6 J6 z6 → (∀ z7, Inv X pins (τ6.set i none) J6 z7 → Q z7) → wpAny (model X.prog X.w) X.A (do bindName X.env n .none; unbindBehindTheSuite X.env n q2) (fun _ z7 => Q z7) X.xe z6 :=
            fun {τ6 J6 Q} S6 hq => gone_ok (S6.unsuite ok) nd ni nl hq
          cases f with
          | next => exact let ⟨τ6, J6, S6, q⟩ := q6; gone S6 fun z7 I7 => ⟨_, _, I7, q⟩
          | brk => exact let ⟨τ6, J6, S6, q⟩ := q6; gone S6 fun z7 I7 => ⟨_, _, I7, q⟩
          | cont => exact let ⟨τ6, J6, S6, q⟩ := q6; gone S6 fun z7 I7 => ⟨_, _, I7, q⟩
          | ret u => exact let ⟨v6, τ6, J6, S6, r6, q⟩ := q6; gone S6 fun z7 I7 => ⟨_, _, _, I7, r6, q⟩
    exact go hh w
  · cases fl with
    | next => exact let ⟨τ, J, I', q⟩ := hsp; wpAny_execs_nil ⟨τ, J, I'.ofTry ok, q⟩
    | brk => exact let ⟨τ, J, I', q⟩ := hsp; ⟨τ, J, I'.ofTry ok, q⟩
    | cont => exact let ⟨τ, J, I', q⟩ := hsp; ⟨τ, J, I'.ofTry ok, q⟩
    | ret u => exact let ⟨v, τ, J, I', r, q⟩ := hsp; ⟨v, τ, J, I'.ofTry ok, r, q⟩⟩
end
/-! ### the mirror of such a try -/
def hndA (tbl : List (Str × Str × Bool)) : List (Str × (Exn → MS)) → Exn → MS
  | [], e, ρ, S => .ex e ρ S
  | (y, g) :: r, e, ρ, S => match slk tbl e.cls y with
    | some true => noX (g e ρ S)
    | some false => hndA tbl r e ρ S
    | none => .un
def tryA (tbl : List (Str × Str × Bool)) (f : MS) (hs : List (Str × (Exn → MS))) : MS := fun ρ S => match f ρ S with
  | .ex e ρ' S' => hndA tbl hs e ρ' S'
  | o => o
/-- the attribute fl of an exception of the class x -/
def exFld (x fl : Str) (e : Exn) : Option D := if e.cls = x then match e.fs with
  | some fs => fs.lookup fl
  | none => none
  else none
/-- return n.f, n the caught exception -/
def retF (x fl : Str) : Exn → MS := fun e _ S => match exFld x fl e with
  | some d => .rt (.d d) S
  | none => .un
/-- return ("w", n.f) -/
def retF2 (x fl w : Str) : Exn → MS := fun e _ S => match exFld x fl e with
  | some d => .rt (.d (.tup [.str w, d])) S
  | none => .un
/-- what an except clause may ask of a class: its name, its attribute -/
structure XR (G : Gc) (x fl : Str) : Prop where
  ex : ∃ C, G.mg x = some (.ref C) ∧ XfC G.K C ∧ PySem.W.findIn G.K (.ref C) fl = some none
section
variable {X : Cx} {T : List (Addr × Str)} {W : WX}
theorem RF.lk {G : Gc} {e : List Addr} {H : Hp} : ∀ {fs : List (Str × D)} {gs : List (Str × V)} {f : Str} {d : D}, RF G e H fs gs → fs.lookup f = some d → ∃ v, gs.lookup f = some v ∧ RV G e H d v
  | _, _, _, _, .nil, h => by simp at h
  | _, _, f, _, .cons (f := g) r t, h => by
    rw [List.lookup_cons] at h ⊢
    cases q : f == g with
    | true =>
      rw [q] at h
      cases h
      exact ⟨_, rfl, r⟩
    | false =>
      rw [q] at h
      exact RF.lk t h
inductive MHdsA (X : Cx) (T : List (Addr × Str)) : List ExceptHandler → List (Str × (Exn → MS)) → List (Value × (Addr → Value → Option Addr → TS)) → Prop
  | nil : MHdsA X T [] [] []
  | cons {x : Str} {C : Addr} {g : MS} {b₀ : Stmt} {suite : List Stmt} {np pos' : Pos} {hds : List ExceptHandler} {hs : List (Str × (Exn → MS))} {l : List (Value × (Addr → Value → Option Addr → TS))} (hm : X.mg x = some (.ref C)) (hg : Gl X x) (hd : (x == ("__debug__" : Str)) = false)
      (hsu : ∀ (a : Addr) (oe : Obj) (pn : List (Addr × Obj)), PSs (X.suite a ((a, oe) :: pn)) (b₀ :: suite) (tS (gOf (X.suite a ((a, oe) :: pn)) T) WF g)) (r : MHdsA X T hds hs l) :
      MHdsA X T (.ExceptHandler (some (.Name x np)) none (b₀ :: suite) pos' :: hds) ((x, fun _ => g) :: hs) ((.ref C, fun _ _ _ => tS (gOf X T) WF g) :: l)
  | fld {x fl n : Str} {i : Nat} {C : Addr} {np pos' p1 p2 p3 : Pos} {hds : List ExceptHandler} {hs : List (Str × (Exn → MS))} {l : List (Value × (Addr → Value → Option Addr → TS))} (hm : X.mg x = some (.ref C)) (hf : XfC X.K C ∧ PySem.W.findIn X.K (.ref C) fl = some none) (hg : Gl X x) (hd : (x == ("__debug__" : Str)) = false)
      (nd : X.N.Nodup) (ni : X.N[i]? = some n) (nl : X.env.kindOf n = some .local)
      (hsu : ∀ (a : Addr) (oe : Obj) (k : Value) (d : Option Addr) (pn : List (Addr × Obj)), Zc k d oe → (∃ vs, oe.data = .fields vs) → PSs (X.suite a ((a, oe) :: pn)) [.Return (some (.Attribute (.Name n p1) fl p2)) p3] (tRet (tXf a k d C fl (tVar i)))) (r : MHdsA X T hds hs l) :
      MHdsA X T (.ExceptHandler (some (.Name x np)) (some n) [.Return (some (.Attribute (.Name n p1) fl p2)) p3] pos' :: hds) ((x, retF x fl) :: hs) ((.ref C, fun a k d D σ H => i < σ.length → tRet (tXf a k d C fl (tVar i)) (endsAs i D) (σ.set i (some (.ref a))) H) :: l)
  | fld2 {x fl n w : Str} {i j kk : Nat} {C : Addr} {np pos' p1 p2 p3 p4 p5 : Pos} {jj : _} {hds : List ExceptHandler} {hs : List (Str × (Exn → MS))} {l : List (Value × (Addr → Value → Option Addr → TS))} (hm : X.mg x = some (.ref C)) (hf : XfC X.K C ∧ PySem.W.findIn X.K (.ref C) fl = some none) (hg : Gl X x) (hd : (x == ("__debug__" : Str)) = false)
      (nd : X.N.Nodup) (ni : X.N[i]? = some n) (nl : X.env.kindOf n = some .local)
      (hsu : ∀ (a : Addr) (oe : Obj) (k : Value) (d : Option Addr) (pn : List (Addr × Obj)), Zc k d oe → (∃ vs, oe.data = .fields vs) → PSs (X.suite a ((a, oe) :: pn)) [.Return (some (.Tuple [.Constant (.str w) jj p4, .Attribute (.Name n p1) fl p2] kk p5)) p3] (tRet (tTup (tCons (tC (.str w)) (tCons (tXf a k d C fl (tVar i)) tNil))))) (r : MHdsA X T hds hs l) :
      MHdsA X T (.ExceptHandler (some (.Name x np)) (some n) [.Return (some (.Tuple [.Constant (.str w) jj p4, .Attribute (.Name n p1) fl p2] kk p5)) p3] pos' :: hds) ((x, retF2 x fl w) :: hs)
        ((.ref C, fun a k d D σ H => i < σ.length → tRet (tTup (tCons (tC (.str w)) (tCons (tXf a k d C fl (tVar i)) tNil))) (endsAs i D) (σ.set i (some (.ref a))) H) :: l)
theorem MHdsA.hds {hds : List ExceptHandler} {hs : List (Str × (Exn → MS))} {l : List (Value × (Addr → Value → Option Addr → TS))} (h : MHdsA X T hds hs l) : HdsA X hds l := by
  induction h with
  | nil => exact .nil
  | cons hm hg hd hsu r ih => exact .plain ⟨hg, hd, .inl hm⟩ (fun a oe cls d pn _ _ => hsu a oe pn) ih
  | fld hm hf hg hd nd ni nl hsu r ih => exact .named nd ni nl ⟨hg, hd, .inl hm⟩ hsu ih
  | fld2 hm hf hg hd nd ni nl hsu r ih => exact .named nd ni nl ⟨hg, hd, .inl hm⟩ hsu ih
theorem hndA_ok {tbl : List (Str × Str × Bool)} (xs : XS (gOf X T) tbl) {x m : List Addr} {H : Hp} {σ : St} {ρ : Env} {S : Sto} {e : Exn} {cls : Value} {d : Option Addr} {Dn : Ends} (p : Rp (gOf X T) x m H ρ S σ) (rx : RX (gOf X T) (x ++ m) H e cls d) :
    ∀ {hds : List ExceptHandler} {hs : List (Str × (Exn → MS))} {l : List (Value × (Addr → Value → Option Addr → TS))}, MHdsA X T hds hs l → PostS (gOf X T) W x m H (hndA tbl hs e ρ S) Dn → wMany X.K W Dn l cls d σ H := by
  have fl : ∀ {y f : Str} {v : D} {C : Addr}, X.mg y = some (.ref C) → exFld y f e = some v → cls = .ref C ∧ ∃ (dd : Addr) (gs : List (Str × V)) (u : V), d = some dd ∧ H dd = some (.xd gs) ∧ gs.lookup f = some u ∧ RV (gOf X T) (x ++ m) H v u := by
    intro y f v C hm h
    obtain ⟨C2, e1, e2, e3⟩ := rx
    unfold exFld at h
    split at h
    · rename_i ec
      rw [ec] at e2
      cases hm.symm.trans e2
      refine ⟨e1, ?_⟩
      split at h
      · rename_i fs ef
        rw [ef] at e3
        obtain ⟨dd, gs, q1, q2, q3⟩ := e3
        obtain ⟨u, q4, q5⟩ := q3.lk h
        exact ⟨dd, gs, u, q1, q2, q4, q5⟩
      · cases h
    · cases h
  intro hds hs l hh
  induction hh with
  | nil => exact fun h => h m H σ cls d Ext.refl p rx
  | @cons y C g b₀ suite np pos' hds hs l hm hg hd hsu r ih =>
    intro h
    unfold hndA at h
    cases q : slk tbl e.cls y with
    | none => rw [q] at h; exact h.elim
    | some b =>
      rw [q] at h
      obtain ⟨C1, D1, h1, h2, h3⟩ := slk_ok xs q
      obtain ⟨C2, e1, e2, _⟩ := rx
      cases h1.symm.trans e2
      cases h2.symm.trans hm
      refine ⟨b, by rw [e1]; exact h3, fun hb a _ => ?_, fun hb => ?_⟩
      · subst hb
        exact ⟨x, m, ρ, S, p, noX_post h⟩
      · subst hb
        exact ih h
  | @fld y f n i C np pos' p1 p2 p3 hds hs l hm hf hg hd nd ni nl hsu r ih =>
    intro h
    unfold hndA at h
    cases q : slk tbl e.cls y with
    | none => rw [q] at h; exact h.elim
    | some b =>
      rw [q] at h
      obtain ⟨C1, D1, h1, h2, h3⟩ := slk_ok xs q
      have rx' := rx
      obtain ⟨C2, e1, e2, _⟩ := rx'
      cases h1.symm.trans e2
      cases h2.symm.trans hm
      refine ⟨b, by rw [e1]; exact h3, fun hb a _ hi => ?_, fun hb => ?_⟩
      · subst hb
        have h := noX_post h
        unfold retF at h
        cases z : exFld y f e with
        | none => rw [z] at h; exact h.elim
        | some v =>
          rw [z] at h
          obtain ⟨ec, dd, gs, u, q1, q2, q3, q4⟩ := fl hm z
          exact ⟨_, List.getElem?_set_self hi, rfl, ec, dd, gs, u, q1, q2, q3, h m H u Ext.refl p.sto (.d q4)⟩
      · subst hb
        exact ih h
  | @fld2 y f n w i j kk C np pos' p1 p2 p3 p4 p5 jj hds hs l hm hf hg hd nd ni nl hsu r ih =>
    intro h
    unfold hndA at h
    cases q : slk tbl e.cls y with
    | none => rw [q] at h; exact h.elim
    | some b =>
      rw [q] at h
      obtain ⟨C1, D1, h1, h2, h3⟩ := slk_ok xs q
      have rx' := rx
      obtain ⟨C2, e1, e2, _⟩ := rx'
      cases h1.symm.trans e2
      cases h2.symm.trans hm
      refine ⟨b, by rw [e1]; exact h3, fun hb a _ hi => ?_, fun hb => ?_⟩
      · subst hb
        have h := noX_post h
        unfold retF2 at h
        cases z : exFld y f e with
        | none => rw [z] at h; exact h.elim
        | some v =>
          rw [z] at h
          obtain ⟨ec, dd, gs, u, q1, q2, q3, q4⟩ := fl hm z
          refine ⟨_, List.getElem?_set_self hi, rfl, ec, dd, gs, u, q1, q2, q3, by simp [sizeLine_eq], fun t nt => ?_⟩
          exact h m _ _ (Ext.new nt) (p.sto.new nt) (.d (RV.newTup (.cons (.str w) (.cons q4 .nil)) nt p.trk))
      · subst hb
        exact ih h
theorem s_tryA {tbl : List (Str × Str × Bool)} {body : List Stmt} {f : MS} {hds : List ExceptHandler} {h₀ : ExceptHandler} {hs : List (Str × (Exn → MS))} {l : List (Value × (Addr → Value → Option Addr → TS))} {pos : Pos} (xs : XS (gOf X T) tbl) (tk : Takes X W)
    (hb : ∀ (W' : WX) (pn : List (Addr × Obj)) (xe : Value → Shared → Prop), Takes (X.tr pn xe) W' → PassesOwn (model X.prog X.w) X.A X.env xe → PSs (X.tr pn xe) body (tS (gOf (X.tr pn xe) T) W' f))
    (hh : MHdsA X T (h₀ :: hds) hs l) (hs1 : X.stack = X.env :: X.outer := by rfl) (hf : X.env.frame = some X.env.locals := by rfl) : PS X (.Try body (h₀ :: hds) [] [] pos) (tS (gOf X T) W (tryA tbl f hs)) :=
  ps_mono (ps_tryA hs1 hf tk (tb := fun W' => tS (gOf X T) W' f) hb hh.hds) fun Dn σ H h => by
    obtain ⟨x, m, ρ, S, p, h⟩ := h
    refine ⟨x, m, ρ, S, p, ?_⟩
    unfold tryA at h
    cases q : f ρ S with
    | ex e ρ' S' =>
      rw [q] at h
      exact fun m' H' σ' cls d E p' rx => hndA_ok xs p' rx hh (PostS.shift E h)
    | nx _ _ => rw [q] at h; exact h
    | rt _ _ => rw [q] at h; exact h
    | bk _ _ => rw [q] at h; exact h
    | ct _ _ => rw [q] at h; exact h
    | un => rw [q] at h; exact h.elim
end
end Mir

/-! Mir35: s.split(t) as a list that will be changed. -/
namespace Mir
open PySem PySem.Spec PyProof.Rows L2 RZ LamX
def nspM (fo fe : ME) : ME := fun ρ S => (fo ρ S).bind fun u S1 => match u with
  | .d (.str a) => (fe ρ S1).bind fun w S2 => match w with
    | .d (.str b) => if b.length ≠ 0 ∧ a.length ≤ big then .ok (.c S2.length) (S2 ++ [.lst ((Txt.split a b).map .str)]) else .un
    | _ => .un
  | _ => .un
section
variable {X : Cx} {T : List (Addr × Str)} {W : WX} {o e : Expr} {fo fe : ME} {apos pos : Pos}
theorem e_nsp (ho : PE X o (tE (gOf X T) W fo)) (he : PE X e (tE (gOf X T) W fe)) (hs : starEach [e] X.env = [(false, eval e X.env)] := by rfl) (hbase : attributeBase o "split" X.env (eval o X.env) = eval o X.env := by rfl) (hline : (apos.endLine == pos.line) = true := by rfl) :
    PE X (.Call (.Attribute o "split" apos) [e] [] pos) (tE (gOf X T) W (nspM fo fe)) := pe_mono (pe_split ho he hs hbase hline) fun σ H Q h => by
  obtain ⟨x, m, ρ, S, p, h⟩ := h
  refine ⟨x, m, ρ, S, p, (Post.bind h).mono fun u S1 m1 H1 E1 R1 ⟨_, _, h1⟩ v rv => ?_⟩
  split at h1
  · rename_i a _
    have ev : v = .str a := by
      cases rv with
      | d r => cases r; rfl
    subst ev
    refine ⟨⟨_, rfl⟩, x, m1, ρ, S1, p.ext E1 R1, (Post.bind h1).mono fun w S2 m2 H2 E2 R2 ⟨_, _, h2⟩ y ry => ?_⟩
    have p2 := (p.ext E1 R1).ext E2 R2
    split at h2
    · rename_i b _
      have ey : y = .str b := by
        cases ry with
        | d r => cases r; rfl
      subst ey
      split at h2
      · rename_i hl
        refine ⟨a, b, rfl, rfl, by simpa using hl.1, Nat.le_trans (Nat.add_le_add_right hl.2 2) (by rw [sizeLine_eq]; decide), fun q np => ?_⟩
        have E3 : Ext (gOf X T) m2 H2 (m2 ++ [q]) (upd H2 q (.lst ((Txt.split a b).map V.str))) := Ext.cell np
        exact h2 (m2 ++ [q]) _ E3 (R2.cell np (.lst (rvs_strs _))) _ (.c (by rw [← R2.len]; simp))
      · exact h2.elim
    · exact h2.elim
  · exact h1.elim
/-- xs[::-1], xs a list -/
def revLM (fe : ME) : ME := fun ρ S => (fe ρ S).bind fun u S1 => match rd S1 u with
  | some (.lst ds) => .ok (.d (.lst ds.reverse)) S1
  | _ => .un
theorem e_revL {k : Nat} {p1 p2 p3 : Pos} (he : PE X e (tE (gOf X T) W fe)) : PE X (.Subscript e (.Slice none none (some (.UnaryOp .USub (.Constant (.int 1) k p1) p2)) p3) pos) (tE (gOf X T) W (revLM fe)) := pe_mono (pe_revL he) fun σ H Q h => by
  obtain ⟨x, m, ρ, S, p, h⟩ := h
  refine ⟨x, m, ρ, S, p, (Post.bind h).mono fun u S1 m1 H1 E1 R1 ⟨_, _, h1⟩ v rv => ?_⟩
  have p1 := p.ext E1 R1
  split at h1
  · rename_i ds hd
    have rt := rv.rt R1 hd
    cases rt with
    | of r => cases r with
      | lst ha hn rs => exact ⟨_, _, rfl, SqL.of ha, fun q nq => h1 m1 _ (Ext.new nq) (R1.new nq) _ (.d (RV.newLst (rvs_rev rs) nq p1.trk))⟩
    | lst ha rs => exact ⟨_, _, rfl, SqL.of ha, fun q nq => h1 m1 _ (Ext.new nq) (R1.new nq) _ (.d (RV.newLst (rvs_rev rs) nq p1.trk))⟩
  · exact h1.elim
end
end Mir

/-! Mir36: exceptions as data: made, asked for their class, their text, their attribute. -/
namespace Mir
open PySem PySem.Spec PyProof.Rows L2 RZ LamX
/-! ### made -/
def tMkx (C : Addr) (ta : TA) : TE := fun σ H Q => ta σ H fun vs H1 => ∃ m : Str, vs = [.str m] ∧ ∀ t1 e, H1 t1 = none → H1 e = none → e ≠ t1 → Q (.ref e) (upd (upd H1 t1 (.tup [.str m])) e (exq e C t1))
section
variable {X : Cx} {C : Addr} {bmB : List Value} {B newId initId : String} {e : Expr} {es : List Expr} {ta : TA} {x : Str} {p pos : Pos}
theorem pe_mkx (F : ExcBaseFacts B newId initId bmB) (q : PySem.W.excIn X.K C bmB newId = true) (gC : X.mg x = some (.ref C)) (kC : PySem.W.keepIn X.K (.ref C) = true) (ha : PA X (e :: es) ta) (hg : Gl X x) (hdb : (x == ("__debug__" : Str)) = false := by decide)
    (e1 : starEach (e :: es) X.env = (false, eval e X.env) :: starEach es X.env := by rfl) (e2 : (backTo pos (starEach es X.env)).any (·.1) = false := by rfl) : PE X (.Call (.Name x p) (e :: es) [] pos) (tMkx C ta) := ⟨fun pins s σ H Q I h => by
  refine wpAny_Call_Name_kw (ld_glob I hg gC ?_ hdb)
  refine PySem.W.callWith_K (h₀ := X.base) I.ok.mod.kin kC (thn (ha.run pos pins s σ H _ I h) fun us s1 hh => ?_) e1 e2
  obtain ⟨vs, H1, I1, r1, m, ev, hq⟩ := hh
  subst ev
  refine ⟨I1.kIn, ?_⟩
  cases r1 with
  | cons ru rn =>
    rename_i u us'
    cases rn
    show wpAny _ _ (call (.ref C) [u]) _ _ _
    obtain ⟨bm, N, nm, qn, bs, hdct, sn, sub, ab, col, dd, k0, k1, k2, k3, k5, mN, hC, hN, hni, T⟩ := exc_obj I1.kIn q
    refine wpAny_call_exc_subT F T hC hN hni (fun h' a hm => ?_) (by show 1 ≤ sizeLine; rw [sizeLine_eq]; omega)
    obtain ⟨t, he, ht0, ht⟩ := hm.there
    have nta : t ≠ a := fun z => by
      rw [z, he] at ht
      cases ht
    have na : H1 a = none := I1.hok.gone hm.new
    have nt : H1 t = none := I1.hok.gone ht0
    obtain ⟨G, g1, g2⟩ := restrict h' fun b => decide (b ≠ a)
    have gk : ∀ b, b ≠ a → G.get? b = h'.get? b := fun b hb => g1 b (decide_eq_true hb)
    have ge : G.get? a = none := g2 a (by simp)
    have J1 : Inv X pins σ (upd H1 t (.tup [.str m])) { s1 with heap := G } := I1.laidN (t' := s1.toks) (fun b o z => by
        have hb : b ≠ a := fun w => by rw [w, hm.new] at z; cases z
        rw [gk b hb]; exact hm.keeps b o z) ht0 nt ⟨by show 1 ≤ sizeLine; rw [sizeLine_eq]; omega, [u], .cons ru .nil, ⟨_, by rw [gk t nta]; exact ht, rfl, _, rfl⟩⟩
    have J2 : Inv X pins σ (upd (upd H1 t (.tup [.str m])) a (exq a C t)) { s1 with heap := h' } := J1.laidN (t' := s1.toks) (fun b o z => by
        have hb : b ≠ a := fun w => by
          have z' : G.get? b = some o := z
          rw [w, ge] at z'; cases z'
        rw [← gk b hb]; exact z) ge (by rw [upd_ne (Ne.symm nta)]; exact na) ⟨he, ⟨_, he⟩, fun h1 h2 z k => k _ z⟩
    exact ⟨.ref a, _, J2, rfl, hq t a nt na (Ne.symm nta)⟩⟩
/-- C(e), C with its own __init__ -/
def tMki (C : Addr) (sp : Sp) (ta : TA) : TE := fun σ H Q => ta σ H fun vs H1 => vs.length ≤ 1000 ∧ ∀ a, H1 a = none → sp (.ref a :: vs) (upd H1 a (exo a C none)) (fun v H2 => v = .non ∧ Q (.ref a) H2) (fun _ _ _ => False)
theorem pe_mki {fI : Addr} {k : Nat} {fd : FuncData} {ps : List Str} {sp : Sp} (T : OexC X.K C) (iC : PySem.W.findIn X.K (.ref C) "__init__" = some (some (.ref fI))) (tI : PySem.W.typeIn X.K (.ref fI) = some (.type "function"))
    (F1 : FnOk X.prog X.w X.K X.mg X.base (L2.CX X.prog X.w) k fI fd ps sp) (hr : Room (k + 1) X.A) (hb : Binds X.K fd ps []) (hg : Gl X x) (gC : X.mg x = some (.ref C)) (ha : PA X (e :: es) ta) (hdb : (x == ("__debug__" : Str)) = false := by decide)
    (e1 : starEach (e :: es) X.env = (false, eval e X.env) :: starEach es X.env := by rfl) (e2 : (backTo pos (starEach es X.env)).any (·.1) = false := by rfl) : PE X (.Call (.Name x p) (e :: es) [] pos) (tMki C sp ta) := ⟨fun pins s σ H Q I h => by
  obtain ⟨nm, q, N, bs, bm, sn, sub, ab, col, dd, k0, k1, k2, k3, k5, hC, hbm⟩ := T.cls
  refine wpAny_Call_Name_kw (ld_glob I hg gC ?_ hdb)
  refine PySem.W.callWith_K (h₀ := X.base) I.ok.mod.kin T.kC (thn (ha.run pos pins s σ H _ I h) fun us s1 hh => ?_) e1 e2
  obtain ⟨vs, H1, I1, r1, hz, q1⟩ := hh
  refine ⟨I1.kIn, ?_⟩
  show wpAny _ _ (call (.ref C) us) _ _ _
  obtain ⟨hp, g, dr, tk, os⟩ := s1
  have hn : H1 (hp.objs.size + 1) = none := I1.hok.fresh (Nat.le_succ _)
  have hq := q1 (hp.objs.size + 1) hn
  have kk : ∀ b o, hp.get? b = some o → ((hp.push (PySem.W.kdv_tup us)).push (PySem.HandSPX.excO C hp.objs.size)).get? b = some o := fun b o z => Heap.get?_push_of_some _ (Heap.get?_push_of_some _ z)
  have hget : ((hp.push (PySem.W.kdv_tup us)).push (PySem.HandSPX.excO C hp.objs.size)).get? (hp.objs.size + 1) = some (PySem.HandSPX.excO C hp.objs.size) := by heap_get
  have I2 : Inv X pins σ (upd H1 (hp.objs.size + 1) (exo (hp.objs.size + 1) C none)) ⟨(hp.push (PySem.W.kdv_tup us)).push (PySem.HandSPX.excO C hp.objs.size), g, dr, tk, os⟩ := I1.laid (t' := tk) kk (Nat.le_succ _) (exo_ok hget)
  have r2 : Vals (V.ref (hp.objs.size + 1) :: vs) (Value.ref (hp.objs.size + 1) :: us) := .cons rfl r1
  have hl : (Value.ref (hp.objs.size + 1) :: us).length = ps.length := by
    have z := r2.length
    rw [F1.len _ _ _ _ hq] at z
    exact z.symm
  refine wpAny_call (PySem.HandSPX.call_own F.excBase_ValueError (fun Y => PySem.HandSPX.refsVE_contains Y bm hbm) (I1.kIn _ _ hC) (PySem.W.looks_findIn I1.kIn iC) (fun self => PySem.W.bind_fn I1.kIn self tI) (by rw [← Paired.length r1, sizeLine_eq]; omega)
    (codeAny_mono (F1.run _ X.stack _ _ ⟨Value.ref (hp.objs.size + 1) :: us, []⟩ (Value.ref (hp.objs.size + 1) :: us) _ _ (fun _ _ _ => False) (hr.make C us []) (I2.env0.make C us []) (by simpa using hb _ (Value.ref (hp.objs.size + 1) :: us) I2.kIn (by simpa using hl)) r2 hq) fun r s' hq' => ?_))
  cases r with
  | error er => exact passN pins σ _ _ er s' I2 hq'
  | ok fl =>
    cases fl with
    | ret u =>
      obtain ⟨v, H2, J, rv, ev, z⟩ := I2.after hq'
      subst ev
      exact ⟨rv, .ref _, H2, J, rfl, z⟩
    | next => exact False.elim hq'
    | brk => exact False.elim hq'
    | cont => exact False.elim hq'⟩
end
def mkxM (x : Str) (f : ME) : ME := fun ρ S => (f ρ S).bind fun u S1 => match u with
  | .d (.str m) => .ok (.d (.obj x [.str m])) S1
  | _ => .un
def mkiM (x fl : Str) (f : ME) : ME := fun ρ S => (f ρ S).bind fun u S1 => match u with
  | .d d => .ok (.d (.obj x [.str fl, d])) S1
  | _ => .un
section
variable {X : Cx} {T : List (Addr × Str)} {W : WX} {e : Expr} {f : ME} {x fl : Str} {p pos : Pos}
theorem args1 {σ : St} {H : Hp} {Q : List V → Hp → Prop} {y m : List Addr} {ρ : Env} {S : Sto} (p : Rp (gOf X T) y m H ρ S σ) {o : O U} (ho : f ρ S = o) {R : U → Sto → List Addr → Hp → Prop} (h : Post (gOf X T) W y m σ H o R) (k : ∀ u S1 m1 H1 v, Ext (gOf X T) m H m1 H1 → RS (gOf X T) (y ++ m1) m1 H1 S1 → RU (gOf X T) (y ++ m1) m1 H1 u v → R u S1 m1 H1 → Q [v] H1) :
    tA (gOf X T) W (argsM [f]) σ H Q := by
  refine ⟨y, m, ρ, S, p, ?_⟩
  simp only [argsM, ho]
  cases o with
  | un => exact h.elim
  | ex ee S' => exact h
  | ok u S' =>
    intro m1 H1 E1 R1 vs rvs
    cases rvs with
    | cons r t =>
      cases t
      exact k u S' m1 H1 _ E1 R1 r (h m1 H1 E1 R1)
theorem e_mkx (h : XC (gOf X T) x) (he : PE X e (tE (gOf X T) W f)) (hg : Gl X x := by rfl) (hdb : (x == ("__debug__" : Str)) = false := by decide) (e1 : starEach [e] X.env = (false, eval e X.env) :: starEach [] X.env := by rfl) (e2 : (backTo pos (starEach [] X.env)).any (·.1) = false := by rfl) :
    PE X (.Call (.Name x p) [e] [] pos) (tE (gOf X T) W (mkxM x f)) := by
  obtain ⟨C, h1, h2, h3, h4, h5⟩ := h.ex
  refine pe_mono (pe_mkx PySem.F.excBase_ValueError h2 h1 h3 (a_cons he a_nil e1) hg hdb e1 e2) fun σ H Q h => ?_
  obtain ⟨y, m, ρ, S, p, h⟩ := h
  refine args1 p rfl (Post.bind h) fun u S1 m1 H1 v E1 R1 ru ⟨_, _, h6⟩ => ?_
  split at h6
  · rename_i z _
    have ev : v = .str z := by
      cases ru with
      | d r => cases r; rfl
    subst ev
    refine ⟨z, rfl, fun t1 a nt na hne => ?_⟩
    have E2 : Ext (gOf X T) m1 H1 m1 (upd H1 t1 (.tup [.str z])) := Ext.new nt
    have na' : upd H1 t1 (.tup [.str z]) a = none := by rw [upd_ne hne]; exact na
    have E3 : Ext (gOf X T) m1 (upd H1 t1 (.tup [.str z])) m1 (upd (upd H1 t1 (.tup [.str z])) a (exq a C t1)) := Ext.new na'
    have p1 := p.ext E1 R1
    have p2 := p1.ext E2 (R1.new nt)
    refine h6 m1 _ (E2.trans E3) ((R1.new nt).new na') _ (.d (.obj (.exc h1 upd_same (new_out na' p2.trk) (.inl (.inl ?_))) (.cons (.str z) .nil)))
    rw [upd_ne (Ne.symm hne), upd_same]
  · exact h6.elim
theorem e_mki {k : Nat} (h : XI (gOf X T) X.base k x fl) (hr : Room (k + 1) X.A) (he : PE X e (tE (gOf X T) W f)) (hg : Gl X x := by rfl) (hdb : (x == ("__debug__" : Str)) = false := by decide) (e1 : starEach [e] X.env = (false, eval e X.env) :: starEach [] X.env := by rfl) (e2 : (backTo pos (starEach [] X.env)).any (·.1) = false := by rfl) :
    PE X (.Call (.Name x p) [e] [] pos) (tE (gOf X T) W (mkiM x fl f)) := by
  obtain ⟨C, fI, fd, qs, h1, h2, h3, h4, h5, h6, h7⟩ := h.ex
  refine pe_mono (pe_mki h2 h4 h5 h6 hr h7 hg h1 (a_cons he a_nil e1) hdb e1 e2) fun σ H Q h => ?_
  obtain ⟨y, m, ρ, S, p, h⟩ := h
  refine args1 p rfl (Post.bind h) fun u S1 m1 H1 v E1 R1 ru ⟨_, _, h8⟩ => ?_
  split at h8
  · rename_i d _
    cases ru with
    | d r =>
      refine ⟨by simp, fun a na => ⟨a, C, v, rfl, h2, h3, upd_same, fun dx nd ne => ⟨rfl, ?_⟩⟩⟩
      rw [upd_ne ne] at nd
      have E2 : Ext (gOf X T) m1 H1 m1 (upd H1 dx (exd dx [(fl, v)])) := Ext.new nd
      have na' : upd H1 dx (exd dx [(fl, v)]) a = none := by rw [upd_ne (Ne.symm ne)]; exact na
      have E3 : Ext (gOf X T) m1 (upd H1 dx (exd dx [(fl, v)])) m1 (upd (upd H1 dx (exd dx [(fl, v)])) a (exo a C (some dx))) := Ext.new na'
      have eq : upd (upd (upd H1 a (exo a C none)) dx (exd dx [(fl, v)])) a (exo a C (some dx)) = upd (upd H1 dx (exd dx [(fl, v)])) a (exo a C (some dx)) := by
        funext b
        by_cases hb : b = a
        · rw [hb, upd_same, upd_same]
        · rw [upd_ne hb, upd_ne hb]
          by_cases hb2 : b = dx
          · rw [hb2, upd_same, upd_same]
          · rw [upd_ne hb2, upd_ne hb2, upd_ne hb]
      rw [eq]
      have p1 := p.ext E1 R1
      have p2 := p1.ext E2 (R1.new nd)
      refine h8 m1 _ (E2.trans E3) ((R1.new nd).new na') _ (.d (.obj (.exi h1 upd_same (new_out na' p2.trk) (by rw [upd_ne ne, upd_same]) ?_) (.cons (.str fl) (.cons ((r.keep E2.kp).keep E3.kp) .nil))))
      exact new_out nd p1.trk
  · exact h8.elim
end

/-! ### asked -/
/-- what the two makings leave at a -/
def IsX (H : Hp) (a C : Addr) : Prop := (∃ t1, H a = some (exq a C t1)) ∨ ∃ d fs, H a = some (exo a C (some d)) ∧ H d = some (exd d fs)
theorem isx_inst {X : Cx} {pins : List (Addr × Obj)} {σ : St} {H : Hp} {s : Shared} {a C : Addr} (I : Inv X pins σ H s) (h : IsX H a C) : ∃ ox od, PySem.W.InstAt s.heap a ox C od := by
  rcases h with ⟨t1, h⟩ | ⟨d, fs, h, hd⟩
  · have z : ObjOk X.prog X.w H s.heap a (exq a C t1) := I.hok a _ h
    exact ⟨_, none, z.1, rfl, rfl, trivial⟩
  · obtain ⟨t1, ho⟩ := exo_at I.hok h
    obtain ⟨mA, ⟨o, es, ep, e1, _⟩, _⟩ := exd_at I.hok hd
    exact ⟨_, some o, ho, rfl, rfl, e1⟩
theorem exD_hd {K : PySem.W.Frag} {C : Addr} (T : L2.ExcC K C) : (PySem.W.clsIn K C).isSome = true := by
  obtain ⟨cd, hc, _⟩ := PySem.W.any_some T.hd
  rw [hc]; rfl
theorem call_isx {X : Cx} : CallR X (.builtin "isinstance") (fun xs H Q => ∃ (a C : Addr) (c : V) (cv : Value) (b : Bool), xs = [.ref a, c] ∧ (∀ u, RelV c u → u = cv) ∧ L2.ExcC X.K C ∧ IsX H a C ∧ PySem.W.kitOne X.K (.ref C) cv = some b ∧ Q (.bl b) H) := by
  intro pins s σ H xs us Q I r h
  obtain ⟨a, C, c, cv, b, rfl, hcv, T, hx, hk, q⟩ := h
  cases r with
  | cons rx rr =>
    cases rr with
    | cons rt rr =>
      cases rr
      cases rx
      have ec := hcv _ rt
      subst ec
      obtain ⟨ox, od, J⟩ := isx_inst I hx
      exact PySem.W.kia_one (PySem.W.kitx_exc (exD_hd T) T.hg T.hk T.hs T.ha T.hn T.ht T.hm) I.kIn J hk (fun z => nomatch z) fun tk => ⟨.bl b, H, I.kept (t' := tk) fun _ _ z => z, rfl, q⟩
theorem call_strx {X : Cx} (hu : X.A.units + 2 < cLine) : CallR X (.type "str") (fun xs H Q => ∃ (a C t1 : Addr) (m : Str), xs = [.ref a] ∧ H a = some (exq a C t1) ∧ SqT X.K H t1 [.str m] ∧ PySem.W.findIn X.K (.ref C) "__str__" = some (some (.builtin "BaseException.__str__")) ∧ PySem.W.subIn X.K (.ref C) (.type "BaseException") = some true ∧ Q (.str m) H) := by
  intro pins s σ H xs us Q I r h
  obtain ⟨a, C, t1, m, rfl, ha, ht, hs, hB, q⟩ := h
  cases r with
  | cons rx rr =>
    cases rr
    cases rx
    have z : ObjOk X.prog X.w H s.heap a (exq a C t1) := I.hok a _ ha
    obtain ⟨its, rv, ⟨o, e1, e2, n, e3⟩, _⟩ := I.tuple ht
    cases rv with
    | cons r1 r2 =>
      cases r2
      obtain ⟨tk, rfl⟩ := r1
      exact PySem.P.str_of_C_one hu ⟨I.kIn, _, _, z.1, rfl, rfl, rfl⟩ ⟨o, n, e1, e2, e3⟩ hs hB ⟨.str m, H, I, ⟨_, rfl⟩, q⟩
def tFdx (K : PySem.W.Frag) (f : Str) (te : TE) : TE := fun σ H Q => te σ H fun x H1 => ∃ (a C d : Addr) (fs : List (Str × V)) (v : V), x = .ref a ∧ XfC K C ∧ PySem.W.findIn K (.ref C) f = some none ∧ H1 a = some (exo a C (some d)) ∧ H1 d = some (exd d fs) ∧ fs.lookup f = some v ∧ Q v H1
theorem pe_fdx {X : Cx} {e : Expr} {te : TE} {pos : Pos} {n : Str} (he : PE X e te) (hb : attributeBase e n X.env (eval e X.env) = eval e X.env := by rfl) : PE X (.Attribute e n pos) (tFdx X.K n te) := ⟨fun pins s σ H Q I h => by
  refine attr_of hb (thn (he.run pins s σ H _ I h) fun u s1 hh => ?_)
  obtain ⟨x, H1, I1, rx, a, C, d, fs, v, ex, T, hno, ea, ed, l, q⟩ := hh
  subst ex
  obtain rfl : u = Value.ref a := rx
  obtain ⟨t1, ho⟩ := exo_at I1.hok ea
  obtain ⟨mA, hns, hr⟩ := exd_at I1.hok ed
  obtain ⟨od, hod, hl⟩ := lookIn_ns hns
  obtain ⟨u, hu, ru⟩ := RelO.some_of (v := v) (o := mA n) (by rw [← l]; exact hr n)
  have J : PySem.W.InstAt s1.heap a _ C (some od) := ⟨ho, rfl, rfl, hod⟩
  exact HandSPX.exc_get I1.kIn J T.ga T.gg T.exC (PySem.W.findObj_own T.hdC hno rfl (by rw [hl, hu])) (handed_of ru) ⟨v, H1, I1.tok _, ru, q⟩⟩
/-- is an exception of the class x one of y: by names -/
def XK (G : Gc) (tbl : List (Str × Str × Bool)) : Prop := ∀ p ∈ tbl, ∃ C cv, G.mg p.1 = some (.ref C) ∧ L2.ExcC G.K C ∧ ((G.mg p.2.1 = some cv ∧ ∃ D, cv = .ref D) ∨ (G.mg p.2.1 = none ∧ bootBuiltins p.2.1 = some (.type "ValueError") ∧ cv = .type "ValueError")) ∧ PySem.W.kitOne G.K (.ref C) cv = some p.2.2
theorem XK.app {G : Gc} {a b : List (Str × Str × Bool)} (h1 : XK G a) (h2 : XK G b) : XK G (a ++ b) := fun p hp => by
  rcases List.mem_append.mp hp with hp | hp
  · exact h1 p hp
  · exact h2 p hp
def isxM (tbl : List (Str × Str × Bool)) (x : Str) (f : ME) : ME := fun ρ S => (f ρ S).bind fun u S1 => match u with
  | .d (.obj y _) => match slk tbl y x with
    | some b => .ok (.d (.bl b)) S1
    | none => .un
  | _ => .un
def strxM (f : ME) : ME := fun ρ S => (f ρ S).bind fun u S1 => match u with
  | .d (.obj _ [.str m]) => .ok (.d (.str m)) S1
  | _ => .un
def fdxM (cs : List Str) (fl : Str) (f : ME) : ME := fun ρ S => (f ρ S).bind fun u S1 => match u with
  | .d (.obj x [.str g, d]) => if g = fl ∧ x ∈ cs then .ok (.d d) S1 else .un
  | _ => .un
theorem slk_mem : ∀ {tbl : List (Str × Str × Bool)} {x y : Str} {b : Bool}, slk tbl x y = some b → (x, y, b) ∈ tbl
  | [], _, _, _, h => by simp [slk] at h
  | (a, c, r) :: t, x, y, b, h => by
    unfold slk at h
    split at h
    · rename_i e
      obtain ⟨rfl, rfl⟩ := e
      cases h
      exact List.mem_cons_self
    · exact List.mem_cons_of_mem _ (slk_mem h)
theorem OB.isx {G : Gc} {e : List Addr} {H : Hp} {x : Str} {vs : List V} {a C : Addr} (h : OB G e H x vs a) (hm : G.mg x = some (.ref C)) : IsX H a C := by
  cases h with
  | exc h1 h2 _ _ =>
    cases h1.symm.trans hm
    exact .inl ⟨_, h2⟩
  | exi h1 h2 _ h4 _ =>
    cases h1.symm.trans hm
    exact .inr ⟨_, _, h2, h4⟩
section
variable {X : Cx} {T : List (Addr × Str)} {W : WX} {e : Expr} {f : ME} {x fl : Str} {p p2 pos : Pos}
theorem e_isx {tbl : List (Str × Str × Bool)} (xk : XK (gOf X T) tbl) (hm : X.mg "isinstance" = none) (hc : ∃ cv, (X.mg x = some cv ∧ ∃ D, cv = .ref D) ∨ (X.mg x = none ∧ bootBuiltins x = some (.type "ValueError") ∧ cv = .type "ValueError")) (ha : PE X e (tE (gOf X T) W f)) (hg : Gl X "isinstance" := by rfl) (hgt : Gl X x := by rfl) (hn : x ≠ "__name__" := by decide) (hdb : (x == ("__debug__" : Str)) = false := by decide)
    (he : starEach [e, .Name x p2] X.env = (false, eval e X.env) :: starEach [.Name x p2] X.env := by rfl) (he2 : starEach [.Name x p2] X.env = (false, eval (.Name x p2) X.env) :: starEach [] X.env := by rfl) (hpl : (backTo pos (starEach [.Name x p2] X.env)).any (·.1) = false := by rfl) :
    PE X (.Call (.Name "isinstance" p) [e, .Name x p2] [] pos) (tE (gOf X T) W (isxM tbl x f)) := by
  obtain ⟨cv, hc⟩ := hc
  have hname : ∃ c : V, PE X (.Name x p2) (tC c) ∧ ∀ u, RelV c u → u = cv := by
    rcases hc with ⟨h1, D, rfl⟩ | ⟨h1, h2, rfl⟩
    · exact ⟨.ref D, pe_glob hgt h1 (v := .ref D) rfl hdb, fun u r => r⟩
    · exact ⟨.ty "ValueError", pe_bltn (v := .ty "ValueError") hgt h1 h2 rfl hn hdb, fun u r => r⟩
  obtain ⟨c, hpe, hrel⟩ := hname
  refine pe_mono (pe_callB call_isx hg hm (by decide +kernel) (pa_cons ha (pa_cons hpe pa_nil he2) he) (hpl := hpl) (he := he)) fun σ H Q h => ?_
  obtain ⟨y, m, ρ, S, p, h⟩ := h
  refine ⟨y, m, ρ, S, p, (Post.bind h).mono fun u S1 m1 H1 E1 R1 ⟨_, _, h1⟩ v rv => ?_⟩
  split at h1
  · rename_i z ds _
    split at h1
    · rename_i b hb
      obtain ⟨C, cv2, k1, k2, k3, k4⟩ := xk _ (slk_mem hb)
      have ecv : cv2 = cv := by
        rcases hc with ⟨h2, D, rfl⟩ | ⟨h2, _, rfl⟩
        · rcases k3 with ⟨k3, _⟩ | ⟨k3, _⟩
          · exact Option.some.inj (k3.symm.trans h2)
          · cases k3.symm.trans h2
        · rcases k3 with ⟨k3, _⟩ | ⟨_, _, k3⟩
          · cases k3.symm.trans h2
          · exact k3
      subst ecv
      cases rv with
      | d r =>
        cases r with
        | obj ho _ => exact ⟨_, C, c, cv2, b, rfl, hrel, k2, ho.isx k1, k4, h1 m1 H1 Ext.refl R1 _ (.d (.bl b))⟩
    · exact h1.elim
  · exact h1.elim
/-- classes whose exceptions may be made a text of -/
def XTs (G : Gc) (cs : List Str) : Prop := ∀ x ∈ cs, ∃ C, G.mg x = some (.ref C) ∧ PySem.W.findIn G.K (.ref C) "__str__" = some (some (.builtin "BaseException.__str__")) ∧ PySem.W.subIn G.K (.ref C) (.type "BaseException") = some true
def strsM (cs : List Str) (f : ME) : ME := fun ρ S => (f ρ S).bind fun u S1 => match u with
  | .d (.obj x [.str m]) => if x ∈ cs then .ok (.d (.str m)) S1 else .un
  | _ => .un
theorem e_strx {cs : List Str} (xt : XTs (gOf X T) cs) (hu : X.A.units + 2 < cLine) (hm : X.mg "str" = none) (ha : PE X e (tE (gOf X T) W f)) (hg : Gl X "str" := by rfl) (he : starEach [e] X.env = (false, eval e X.env) :: starEach [] X.env := by rfl) (hpl : (backTo pos (starEach [] X.env)).any (·.1) = false := by rfl) :
    PE X (.Call (.Name "str" p) [e] [] pos) (tE (gOf X T) W (strsM cs f)) := by
  refine pe_mono (pe_callTy (call_strx hu) hg hm (by decide +kernel) (pa_cons ha pa_nil he) (hpl := hpl) (he := he)) fun σ H Q h => ?_
  obtain ⟨y, m, ρ, S, p, h⟩ := h
  refine ⟨y, m, ρ, S, p, (Post.bind h).mono fun u S1 m1 H1 E1 R1 ⟨_, _, h1⟩ v rv => ?_⟩
  split at h1
  · rename_i z mm _
    split at h1
    · rename_i hz
      obtain ⟨C, k1, k2, k3⟩ := xt z hz
      cases rv with
      | d r =>
        cases r with
        | obj ho hr =>
          cases hr with
          | cons r1 r2 =>
            cases r2
            cases r1
            cases ho with
            | exc g1 g2 g3 g4 =>
              cases g1.symm.trans k1
              exact ⟨_, C, _, _, rfl, g2, g4, k2, k3, h1 m1 H1 Ext.refl R1 _ (.d (.str _))⟩
    · exact h1.elim
  · exact h1.elim
def XFs (G : Gc) (cs : List Str) (fl : Str) : Prop := ∀ x ∈ cs, XR G x fl
theorem e_fdx {cs : List Str} (xf : XFs (gOf X T) cs fl) (ha : PE X e (tE (gOf X T) W f)) (hb : attributeBase e fl X.env (eval e X.env) = eval e X.env := by rfl) : PE X (.Attribute e fl pos) (tE (gOf X T) W (fdxM cs fl f)) := by
  refine pe_mono (pe_fdx ha hb) fun σ H Q h => ?_
  obtain ⟨y, m, ρ, S, p, h⟩ := h
  refine ⟨y, m, ρ, S, p, (Post.bind h).mono fun u S1 m1 H1 E1 R1 ⟨_, _, h1⟩ v rv => ?_⟩
  split at h1
  · rename_i z g d _
    split at h1
    · rename_i hz
      obtain ⟨rfl, hz⟩ := hz
      obtain ⟨C, k1, k2, k3⟩ := (xf z hz).ex
      cases rv with
      | d r =>
        cases r with
        | obj ho hr =>
          cases hr with
          | cons r1 r2 =>
            cases r1
            cases r2 with
            | cons r2 r3 =>
              cases r3
              cases ho with
              | exi g1 g2 g3 g4 g5 =>
                cases g1.symm.trans k1
                exact ⟨_, C, _, _, _, rfl, k2, k3, g2, g4, by simp, h1 m1 H1 Ext.refl R1 _ (.d r2)⟩
    · exact h1.elim
  · exact h1.elim
end
end Mir

/-! Pl: plain laws of the mirrors' words: walks, comprehensions, equality. -/
namespace Mir
open PySem PySem.Spec PyProof.Rows L2
theorem lcL_pure {tg : Tg} {t : MT} {f : ME} {ρ0 : Env} {S : Sto} (g : D → D) : ∀ ds : List D, (∀ d ∈ ds, ∃ ρ, setT tg d ρ0 = some ρ ∧ t ρ S = .ok true S ∧ f ρ S = .ok (.d (g d)) S) → lcL tg t f ρ0 ds S = .ok (ds.map g) S
  | [], _ => rfl
  | d :: ds, h => by
    obtain ⟨ρ, h1, h2, h3⟩ := h d List.mem_cons_self
    have ih := lcL_pure g ds fun x hx => h x (List.mem_cons_of_mem _ hx)
    simp only [lcL, h1, h2, h3, ih, List.map_cons]
/-- what comes in, what goes out, row by row -/
theorem lcL_rows {tg : Tg} {t : MT} {f : ME} {ρ0 : Env} {S : Sto} : ∀ {ps : List (D × D)} {ds ys : List D}, ds = ps.map (·.1) → ys = ps.map (·.2) → (∀ p ∈ ps, ∃ ρ, setT tg p.1 ρ0 = some ρ ∧ t ρ S = .ok true S ∧ f ρ S = .ok (.d p.2) S) → lcL tg t f ρ0 ds S = .ok ys S
  | [], _, _, e1, e2, _ => by subst e1 e2; rfl
  | p :: ps, _, _, e1, e2, h => by
    subst e1 e2
    obtain ⟨ρ, h1, h2, h3⟩ := h p List.mem_cons_self
    have ih := lcL_rows (ps := ps) rfl rfl fun x hx => h x (List.mem_cons_of_mem _ hx)
    simp only [List.map_cons, lcL, h1, h2, h3, ih]
/-- a comprehension with a test, pure -/
theorem lcL_filter {tg : Tg} {t : MT} {f : ME} {ρ0 : Env} {S : Sto} (p : D → Bool) (g : D → D) : ∀ ds : List D, (∀ d ∈ ds, ∃ ρ, setT tg d ρ0 = some ρ ∧ t ρ S = .ok (p d) S ∧ (p d = true → f ρ S = .ok (.d (g d)) S)) → lcL tg t f ρ0 ds S = .ok ((ds.filter p).map g) S
  | [], _ => rfl
  | d :: ds, h => by
    obtain ⟨ρ, h1, h2, h3⟩ := h d List.mem_cons_self
    have ih := lcL_filter p g ds fun x hx => h x (List.mem_cons_of_mem _ hx)
    cases hp : p d with
    | true => simp only [lcL, h1, h2, hp, h3 hp, ih, List.filter_cons_of_pos, List.map_cons]
    | false => simp only [lcL, h1, h2, hp, ih, Bool.false_eq_true, not_false_eq_true, List.filter_cons_of_neg]
theorem lcL_inv {tg : Tg} {t : MT} {f : ME} {ρ0 : Env} (I : Sto → Prop) (Pr : D → Prop) : ∀ (ds : List D) (S : Sto), (∀ d ∈ ds, ∀ S, I S → ∃ ρ S1 y S2, setT tg d ρ0 = some ρ ∧ t ρ S = .ok true S1 ∧ f ρ S1 = .ok (.d y) S2 ∧ I S2 ∧ Pr y) → I S →
    ∃ ys S', lcL tg t f ρ0 ds S = .ok ys S' ∧ I S' ∧ ys.length = ds.length ∧ ∀ y ∈ ys, Pr y
  | [], S, _, hI => ⟨[], S, rfl, hI, rfl, fun _ h => by cases h⟩
  | d :: ds, S, h, hI => by
    obtain ⟨ρ, S1, y, S2, h1, h2, h3, h4, h5⟩ := h d List.mem_cons_self S hI
    obtain ⟨ys, S', h6, h7, h8, h9⟩ := lcL_inv I Pr ds S2 (fun x hx => h x (List.mem_cons_of_mem _ hx)) h4
    exact ⟨y :: ys, S', by simp only [lcL, h1, h2, h3, h6], h7, by simp [h8], fun z hz => by
      rcases List.mem_cons.mp hz with q | q
      · rw [q]; exact h5
      · exact h9 z q⟩
theorem forL_inv {g : MG} {f : MS} (I : Env → Sto → Prop) : ∀ (ds : List D) (ρ : Env) (S : Sto), (∀ d ∈ ds, ∀ ρ S, I ρ S → ∃ q ρ' S', g (.d d) ρ S = some q ∧ (f q.1 q.2 = .nx ρ' S' ∨ f q.1 q.2 = .ct ρ' S') ∧ I ρ' S') → I ρ S → ∃ ρ' S', forL g f ds ρ S = .nx ρ' S' ∧ I ρ' S'
  | [], ρ, S, _, hI => ⟨ρ, S, rfl, hI⟩
  | d :: ds, ρ, S, h, hI => by
    obtain ⟨q, ρ', S', h1, h2, h3⟩ := h d List.mem_cons_self ρ S hI
    obtain ⟨ρ2, S2, h4, h5⟩ := forL_inv I ds ρ' S' (fun x hx => h x (List.mem_cons_of_mem _ hx)) h3
    refine ⟨ρ2, S2, ?_, h5⟩
    rcases h2 with h2 | h2 <;> simp only [forL, h1, h2, h4]
/-- a loop that grows what it has, turn by turn -/
theorem forL_fold {α : Type} {g : MG} {f : MS} (I : α → Env → Sto → Prop) (step : α → D → α) : ∀ (ds : List D) (a : α) (ρ : Env) (S : Sto), (∀ d ∈ ds, ∀ a ρ S, I a ρ S → ∃ q ρ' S', g (.d d) ρ S = some q ∧ (f q.1 q.2 = .nx ρ' S' ∨ f q.1 q.2 = .ct ρ' S') ∧ I (step a d) ρ' S') → I a ρ S → ∃ ρ' S', forL g f ds ρ S = .nx ρ' S' ∧ I (ds.foldl step a) ρ' S'
  | [], a, ρ, S, _, hI => ⟨ρ, S, rfl, hI⟩
  | d :: ds, a, ρ, S, h, hI => by
    obtain ⟨q, ρ', S', h1, h2, h3⟩ := h d List.mem_cons_self a ρ S hI
    obtain ⟨ρ2, S2, h4, h5⟩ := forL_fold I step ds (step a d) ρ' S' (fun x hx => h x (List.mem_cons_of_mem _ hx)) h3
    refine ⟨ρ2, S2, ?_, h5⟩
    rcases h2 with h2 | h2 <;> simp only [forL, h1, h2, h4]
/-! ### equality -/
mutual
/-- data without truths, dicts, not deeper than n -/
def cl : Nat → D → Bool
  | _, .non => true
  | _, .int _ => true
  | _, .str x => PyData.strOk x
  | n + 1, .tup xs => cls n xs
  | n + 1, .lst xs => cls n xs
  | _, _ => false
def cls : Nat → List D → Bool
  | _, [] => true
  | n, x :: xs => cl n x && cls n xs
end
mutual
theorem cl_can : ∀ (n : Nat) (d : D), cl n d = true → PyData.canLay0 d.P = true ∧ d.P.depth ≤ n
  | n, .non, _ => ⟨rfl, Nat.zero_le _⟩
  | n, .int _, _ => ⟨rfl, Nat.zero_le _⟩
  | n, .str x, h => ⟨by cases n <;> simpa [cl, D.P, PyData.canLay0] using h, Nat.zero_le _⟩
  | 0, .tup xs, h => by simp [cl] at h
  | 0, .lst xs, h => by simp [cl] at h
  | n + 1, .tup xs, h => by
    have := cls_can n xs (by simpa [cl] using h)
    refine ⟨this.1, ?_⟩
    exact Nat.succ_le_succ this.2
  | n + 1, .lst xs, h => by
    have := cls_can n xs (by simpa [cl] using h)
    refine ⟨this.1, ?_⟩
    exact Nat.succ_le_succ this.2
  | 0, .bl _, h => by simp [cl] at h
  | n + 1, .bl _, h => by simp [cl] at h
  | 0, .dic _ _ _, h => by simp [cl] at h
  | n + 1, .dic _ _ _, h => by simp [cl] at h
  | 0, .scr _, h => by simp [cl] at h
  | n + 1, .scr _, h => by simp [cl] at h
  | 0, .obj _ _, h => by simp [cl] at h
  | n + 1, .obj _ _, h => by simp [cl] at h
theorem cls_can : ∀ (n : Nat) (ds : List D), cls n ds = true → PyData.canLayAll0 (Ps ds) = true ∧ PyData.depthAll (Ps ds) ≤ n
  | n, [], _ => ⟨rfl, Nat.zero_le _⟩
  | n, d :: ds, h => by
    have h' := Bool.and_eq_true_iff.mp (show (cl n d && cls n ds) = true from h)
    have a := cl_can n d h'.1
    have b := cls_can n ds h'.2
    refine ⟨?_, ?_⟩
    · simp [Ps, PyData.canLayAll0, a.1, b.1]
    · exact Nat.max_le.mpr ⟨a.2, b.2⟩
end
theorem cl_sh {n : Nat} {d : D} (h : cl n d = true) (hn : n ≤ 64) : sh d = true := by
  have := cl_can n d h
  unfold sh SeqAt.shaped
  rw [this.1, decide_eq_true (Nat.le_trans this.2 hn)]
  rfl
mutual
theorem cl_eq : ∀ (n m : Nat) (x y : D), cl n x = true → cl m y = true → (eqD x y = true ↔ x = y)
  | n, m, .non, y, _, hy => by cases y <;> simp_all [eqD, D.P, PyData.eqv, cl]
  | n, m, .int i, y, _, hy => by cases y <;> simp_all [eqD, D.P, PyData.eqv, cl]
  | n, m, .str i, y, _, hy => by cases y <;> simp_all [eqD, D.P, PyData.eqv, cl]
  | 0, _, .tup xs, _, h, _ => by simp [cl] at h
  | 0, _, .lst xs, _, h, _ => by simp [cl] at h
  | n + 1, m, .tup xs, y, h, hy => by
    cases y with
    | tup ys =>
      cases m with
      | zero => simp [cl] at hy
      | succ m =>
        have := cls_eq n m xs ys (by simpa [cl] using h) (by simpa [cl] using hy)
        simpa [eqD, D.P, PyData.eqv] using this
    | _ => simp_all [eqD, D.P, PyData.eqv, cl]
  | n + 1, m, .lst xs, y, h, hy => by
    cases y with
    | lst ys =>
      cases m with
      | zero => simp [cl] at hy
      | succ m =>
        have := cls_eq n m xs ys (by simpa [cl] using h) (by simpa [cl] using hy)
        simpa [eqD, D.P, PyData.eqv] using this
    | _ => simp_all [eqD, D.P, PyData.eqv, cl]
  | 0, _, .bl _, _, h, _ => by simp [cl] at h
  | n + 1, _, .bl _, _, h, _ => by simp [cl] at h
  | 0, _, .dic _ _ _, _, h, _ => by simp [cl] at h
  | n + 1, _, .dic _ _ _, _, h, _ => by simp [cl] at h
  | 0, _, .scr _, _, h, _ => by simp [cl] at h
  | n + 1, _, .scr _, _, h, _ => by simp [cl] at h
  | 0, _, .obj _ _, _, h, _ => by simp [cl] at h
  | n + 1, _, .obj _ _, _, h, _ => by simp [cl] at h
theorem cls_eq : ∀ (n m : Nat) (xs ys : List D), cls n xs = true → cls m ys = true → (PyData.eqvAll (Ps xs) (Ps ys) = true ↔ xs = ys)
  | _, _, [], [], _, _ => by simp [Ps, PyData.eqvAll]
  | _, _, [], y :: ys, _, _ => by simp [Ps, PyData.eqvAll]
  | _, _, x :: xs, [], _, _ => by simp [Ps, PyData.eqvAll]
  | n, m, x :: xs, y :: ys, h, h' => by
    have a := Bool.and_eq_true_iff.mp (show (cl n x && cls n xs) = true from h)
    have b := Bool.and_eq_true_iff.mp (show (cl m y && cls m ys) = true from h')
    have e1 := cl_eq n m x y a.1 b.1
    have e2 := cls_eq n m xs ys a.2 b.2
    have e1' : PyData.eqv x.P y.P = true ↔ x = y := e1
    simp [Ps, PyData.eqvAll, e1', e2]
end
theorem eqG_cl {n m : Nat} {x y : D} (hx : cl n x = true) (hy : cl m y = true) (hn : n ≤ 64 := by decide) (hm : m ≤ 64 := by decide) : eqG x y = some (.bl (eqD x y)) := by
  unfold eqG
  rw [cl_sh hx hn, cl_sh hy hm]
  rfl
theorem neG_cl {n m : Nat} {x y : D} (hx : cl n x = true) (hy : cl m y = true) (hn : n ≤ 64 := by decide) (hm : m ≤ 64 := by decide) : neG x y = some (.bl (!eqD x y)) := by
  unfold neG
  rw [cl_sh hx hn, cl_sh hy hm]
  rfl
theorem eqG_refl {n : Nat} {x : D} (hx : cl n x = true) (hn : n ≤ 64 := by decide) : eqG x x = some (.bl true) := by
  rw [eqG_cl hx hx hn hn, (cl_eq n n x x hx hx).mpr rfl]
theorem neG_refl {n : Nat} {x : D} (hx : cl n x = true) (hn : n ≤ 64 := by decide) : neG x x = some (.bl false) := by
  rw [neG_cl hx hx hn hn, (cl_eq n n x x hx hx).mpr rfl]
  rfl
theorem eqG_int (i j : Int) : eqG (.int i) (.int j) = some (.bl (i == j)) := rfl
theorem neG_int (i j : Int) : neG (.int i) (.int j) = some (.bl (!(i == j))) := rfl
theorem cls_ints {n : Nat} : ∀ b : List Int, cls n (b.map D.int) = true
  | [] => by simp [cls]
  | i :: b => by
    have := cls_ints (n := n) b
    cases n <;> simpa [cls, cl] using this
theorem cl_ints {n : Nat} (b : List Int) : cl (n + 1) (.tup (b.map D.int)) = true := cls_ints b
theorem cl_nil {n : Nat} : cl (n + 1) (.tup []) = true := rfl
theorem neG_nil {n : Nat} {xs : List D} (h : cl n (.tup xs) = true) (hn : n ≤ 64 := by decide) : neG (.tup xs) (.tup []) = some (.bl (!xs.isEmpty)) := by
  rw [neG_cl (n := n) (m := 1) h cl_nil hn (by decide)]
  cases xs with
  | nil => rfl
  | cons _ _ => rfl
/-! ### answers, looked at by evaluation -/
def isOk (r : R) (d : D) : Bool := match r with
  | .ok x => cl 9 x && cl 9 d && eqD x d
  | _ => false
theorem isOk_eq {r : R} {d : D} (h : isOk r d = true) : r = .ok d := by
  unfold isOk at h
  split at h
  · simp only [Bool.and_eq_true] at h
    rw [(cl_eq 9 9 _ _ h.1.1 h.1.2).mp h.2]
  · cases h
def isBl (r : R) (b : Bool) : Bool := match r with
  | .ok (.bl c) => c == b
  | _ => false
theorem isBl_eq {r : R} {b : Bool} (h : isBl r b = true) : r = .ok (.bl b) := by
  unfold isBl at h
  split at h
  · rw [beq_iff_eq.mp h]
  · cases h
end Mir

/-! Pm: plain laws of the mirrors' words, told by what stands at a name's place. -/
namespace Mir
open PySem PySem.Spec PyProof.Rows L2
theorem wipeE_len : ∀ (is : List Nat) (ρ : Env), (wipeE ρ is).length = ρ.length
  | [], _ => rfl
  | i :: is, ρ => by rw [wipeE, wipeE_len is, List.length_set]
theorem wipeE_at : ∀ (is : List Nat) (ρ : Env) (j : Nat), j ∉ is → (wipeE ρ is)[j]? = ρ[j]?
  | [], _, _, _ => rfl
  | i :: is, ρ, j, h => by
    simp only [List.mem_cons, not_or] at h
    rw [wipeE, wipeE_at is _ j h.2, List.getElem?_set_ne (fun z => h.1 z.symm)]
theorem set_ne {ρ : Env} {i j : Nat} {u : Option U} (h : i ≠ j) : (ρ.set i u)[j]? = ρ[j]? := List.getElem?_set_ne h
theorem set_eq {ρ : Env} {i : Nat} {u : Option U} (h : i < ρ.length) : (ρ.set i u)[i]? = some u := List.getElem?_set_self h
theorem var_at {ρ : Env} {S : Sto} {i : Nat} {u : U} (h : ρ[i]? = some (some u)) : varM i ρ S = .ok u S := by
  simp [varM, h]
/-! ### comprehensions -/
theorem lcM_rows {it : MI} {tg : Tg} {t : MT} {f : ME} {own : List Nat} {ρ : Env} {S S1 : Sto} {ds : List D} (g : D → D) (hi : it ρ S = .ok ds S1) (hl : ds.length ≤ big)
    (h : ∀ d ∈ ds, ∃ ρ', setT tg d (wipeE ρ own) = some ρ' ∧ t ρ' S1 = .ok true S1 ∧ f ρ' S1 = .ok (.d (g d)) S1) : lcM it tg t f own ρ S = .ok (.d (.lst (ds.map g))) S1 := by
  rw [lcM, hi]
  simp only [O.bind]
  rw [if_pos hl, lcL_pure g ds h]
theorem lcM_fil {it : MI} {tg : Tg} {t : MT} {f : ME} {own : List Nat} {ρ : Env} {S S1 : Sto} {ds : List D} (p : D → Bool) (g : D → D) (hi : it ρ S = .ok ds S1) (hl : ds.length ≤ big)
    (h : ∀ d ∈ ds, ∃ ρ', setT tg d (wipeE ρ own) = some ρ' ∧ t ρ' S1 = .ok (p d) S1 ∧ (p d = true → f ρ' S1 = .ok (.d (g d)) S1)) : lcM it tg t f own ρ S = .ok (.d (.lst ((ds.filter p).map g))) S1 := by
  rw [lcM, hi]
  simp only [O.bind]
  rw [if_pos hl, lcL_filter p g ds h]
theorem lcM_inv {it : MI} {tg : Tg} {t : MT} {f : ME} {own : List Nat} {ρ : Env} {S S1 : Sto} {ds : List D} (I : Sto → Prop) (Pr : D → Prop) (hi : it ρ S = .ok ds S1) (hl : ds.length ≤ big)
    (h : ∀ d ∈ ds, ∀ S, I S → ∃ ρ' S2 y S3, setT tg d (wipeE ρ own) = some ρ' ∧ t ρ' S = .ok true S2 ∧ f ρ' S2 = .ok (.d y) S3 ∧ I S3 ∧ Pr y) (hI : I S1) :
    ∃ ys S', lcM it tg t f own ρ S = .ok (.d (.lst ys)) S' ∧ I S' ∧ ys.length = ds.length ∧ ∀ y ∈ ys, Pr y := by
  obtain ⟨ys, S', h1, h2, h3, h4⟩ := lcL_inv (tg := tg) (t := t) (f := f) (ρ0 := wipeE ρ own) I Pr ds S1 h hI
  refine ⟨ys, S', ?_, h2, h3, h4⟩
  rw [lcM, hi]
  simp only [O.bind]
  rw [if_pos hl, h1]
/-- nothing that is drawn on: by a map of what comes -/
theorem lcM_map {α : Type} {it : MI} {tg : Tg} {t : MT} {f : ME} {own : List Nat} {ρ : Env} {S S1 : Sto} {xs : List α} (a : α → D) (b : α → D) (hi : it ρ S = .ok (xs.map a) S1) (hl : xs.length ≤ big)
    (h : ∀ x ∈ xs, ∃ ρ', setT tg (a x) (wipeE ρ own) = some ρ' ∧ t ρ' S1 = .ok true S1 ∧ f ρ' S1 = .ok (.d (b x)) S1) : lcM it tg t f own ρ S = .ok (.d (.lst (xs.map b))) S1 := by
  rw [lcM, hi]
  simp only [O.bind]
  rw [if_pos (by rw [List.length_map]; exact hl), lcL_rows (ps := xs.map fun x => (a x, b x)) (ds := xs.map a) (ys := xs.map b) (by simp [Function.comp_def]) (by simp [Function.comp_def]) (fun p hp => by
    obtain ⟨x, hx, rfl⟩ := List.mem_map.mp hp
    exact h x hx)]
theorem lcL_mapf {α : Type} {tg : Tg} {t : MT} {f : ME} {ρ0 : Env} {S : Sto} (a : α → D) (p : α → Bool) (b : α → D) : ∀ xs : List α, (∀ x ∈ xs, ∃ ρ, setT tg (a x) ρ0 = some ρ ∧ t ρ S = .ok (p x) S ∧ (p x = true → f ρ S = .ok (.d (b x)) S)) → lcL tg t f ρ0 (xs.map a) S = .ok ((xs.filter p).map b) S
  | [], _ => rfl
  | x :: xs, h => by
    obtain ⟨ρ, h1, h2, h3⟩ := h x List.mem_cons_self
    have ih := lcL_mapf a p b xs fun y hy => h y (List.mem_cons_of_mem _ hy)
    cases hp : p x with
    | true => simp only [List.map_cons, lcL, h1, h2, hp, h3 hp, ih, List.filter_cons_of_pos]
    | false => simp only [List.map_cons, lcL, h1, h2, hp, ih, Bool.false_eq_true, not_false_eq_true, List.filter_cons_of_neg]
theorem lcM_mapf {α : Type} {it : MI} {tg : Tg} {t : MT} {f : ME} {own : List Nat} {ρ : Env} {S S1 : Sto} {xs : List α} (a : α → D) (p : α → Bool) (b : α → D) (hi : it ρ S = .ok (xs.map a) S1) (hl : xs.length ≤ big)
    (h : ∀ x ∈ xs, ∃ ρ', setT tg (a x) (wipeE ρ own) = some ρ' ∧ t ρ' S1 = .ok (p x) S1 ∧ (p x = true → f ρ' S1 = .ok (.d (b x)) S1)) : lcM it tg t f own ρ S = .ok (.d (.lst ((xs.filter p).map b))) S1 := by
  rw [lcM, hi]
  simp only [O.bind]
  rw [if_pos (by rw [List.length_map]; exact hl), lcL_mapf a p b xs h]
/-! ### for -/
theorem forM_nx {it : MI} {g : MG} {f : MS} {ρ : Env} {S S1 : Sto} {ds : List D} {o : SO} (hi : it ρ S = .ok ds S1) (h : forL g f ds ρ S1 = o) : forM it g f ρ S = o := by
  rw [forM, hi]
  exact h
/-- a loop that grows what it has; what comes is xs -/
theorem forL_map {α β : Type} {g : MG} {f : MS} (a : α → D) (I : β → Env → Sto → Prop) (step : β → α → β) : ∀ (xs : List α) (b : β) (ρ : Env) (S : Sto), (∀ x ∈ xs, ∀ b ρ S, I b ρ S → ∃ q ρ' S', g (.d (a x)) ρ S = some q ∧ (f q.1 q.2 = .nx ρ' S' ∨ f q.1 q.2 = .ct ρ' S') ∧ I (step b x) ρ' S') → I b ρ S →
    ∃ ρ' S', forL g f (xs.map a) ρ S = .nx ρ' S' ∧ I (xs.foldl step b) ρ' S'
  | [], b, ρ, S, _, hI => ⟨ρ, S, rfl, hI⟩
  | x :: xs, b, ρ, S, h, hI => by
    obtain ⟨q, ρ', S', h1, h2, h3⟩ := h x List.mem_cons_self b ρ S hI
    obtain ⟨ρ2, S2, h4, h5⟩ := forL_map a I step xs (step b x) ρ' S' (fun y hy => h y (List.mem_cons_of_mem _ hy)) h3
    refine ⟨ρ2, S2, ?_, h5⟩
    rcases h2 with h2 | h2 <;> simp only [List.map_cons, forL, h1, h2, h4]
/-- the same, where the turn's place in the walk is told -/
theorem forL_ix {β : Type} {g : MG} {f : MS} (I : Nat → Env → Sto → Prop) (ds : List D) : ∀ (n : Nat), (∀ i d, i < n → ds[i]? = some d → ∀ ρ S, I i ρ S → ∃ q ρ' S', g (.d d) ρ S = some q ∧ (f q.1 q.2 = .nx ρ' S' ∨ f q.1 q.2 = .ct ρ' S') ∧ I (i + 1) ρ' S') → ∀ (k : Nat), k ≤ n → n = ds.length → ∀ ρ S, I k ρ S →
    ∃ ρ' S', forL g f (ds.drop k) ρ S = .nx ρ' S' ∧ I n ρ' S' := by
  intro n h k hk hn
  obtain ⟨j, hj⟩ : ∃ j, n - k = j := ⟨_, rfl⟩
  induction j generalizing k with
  | zero =>
    intro ρ S hI
    have e : k = n := by omega
    subst e
    rw [List.drop_eq_nil_of_le (by omega)]
    exact ⟨ρ, S, rfl, hI⟩
  | succ j ih =>
    intro ρ S hI
    have hlt : k < ds.length := by omega
    obtain ⟨q, ρ', S', h1, h2, h3⟩ := h k ds[k] (by omega) (List.getElem?_eq_getElem hlt) ρ S hI
    obtain ⟨ρ2, S2, h4, h5⟩ := ih (k + 1) (by omega) (by omega) ρ' S' h3
    refine ⟨ρ2, S2, ?_, h5⟩
    rw [List.drop_eq_getElem_cons hlt]
    rcases h2 with h2 | h2 <;> simp only [forL, h1, h2, h4]
/-! ### while -/
theorem whM_true {t : MT} {f : MS} {ρ ρ' : Env} {S S1 S' : Sto} (h1 : t ρ S = .ok true S1) (h2 : f ρ S1 = .nx ρ' S' ∨ f ρ S1 = .ct ρ' S') : whM t f ρ S = whM t f ρ' S' := by
  have step : ∀ n, whN t f (n + 1) ρ S = whN t f n ρ' S' := fun n => by
    rw [whN, h1]
    rcases h2 with h2 | h2 <;> simp only [h2]
  by_cases h : ∃ n, whN t f n ρ' S' ≠ .un
  · obtain ⟨n, hn⟩ := h
    rw [whM_eq (n := n) hn, whM_eq (n := n + 1) (by rw [step]; exact hn), step]
  · have h' : ¬ ∃ n, whN t f n ρ S ≠ .un := fun ⟨n, hn⟩ => by
      cases n with
      | zero => exact hn rfl
      | succ n => exact h ⟨n, by rw [← step]; exact hn⟩
    rw [whM, whM, dif_neg h, dif_neg h']
theorem whM_false {t : MT} {f : MS} {ρ : Env} {S S' : Sto} (h : t ρ S = .ok false S') : whM t f ρ S = .nx ρ S' := by
  have e : whN t f 1 ρ S = .nx ρ S' := by rw [whN, h]
  rw [whM_eq (n := 1) (by rw [e]; intro z; cases z), e]
theorem whM_ret {t : MT} {f : MS} {ρ : Env} {S S1 S' : Sto} {u : U} (h1 : t ρ S = .ok true S1) (h2 : f ρ S1 = .rt u S') : whM t f ρ S = .rt u S' := by
  have e : whN t f 1 ρ S = .rt u S' := by rw [whN, h1]; simp only [h2]
  rw [whM_eq (n := 1) (by rw [e]; intro z; cases z), e]
end Mir

namespace Q
open PySem PySem.Spec PyProof.Rows L2 Mir LamX
def topS (i : Nat) : Stmt := PySem.Challenge.pw_stoneroads_k20_errors_and_their_classes.main.body.getD i (.Pass ⟨0, 0, 0, 0⟩)
theorem blt_int : bootBuiltins "int" = some (.type "int") := by decide +kernel
theorem blt_isinstance : bootBuiltins "isinstance" = some (.builtin "isinstance") := by decide +kernel
theorem blt_len : bootBuiltins "len" = some (.builtin "len") := by decide +kernel
theorem blt_range : bootBuiltins "range" = some (.type "range") := by decide +kernel
theorem blt_str : bootBuiltins "str" = some (.type "str") := by decide +kernel
def is_Failed : List (Str × Str × Bool) := [("Failed", "Failed", true), ("Failed", "InvalidKinds", false), ("Failed", "InvalidNumber", false), ("Failed", "InvalidPlace", false), ("Failed", "InvalidPlan", false), ("Failed", "InvalidPlayer", false), ("Failed", "InvalidRoad", false), ("Failed", "InvalidSign", false), ("Failed", "InvalidStretch", false), ("Failed", "InvalidText", false), ("Failed", "InvalidWay", false), ("Failed", "NothingToUndo", false), ("Failed", "RoadError", true), ("Failed", "TooMany", false), ("Failed", "ValueError", true)]
def is_InvalidKinds : List (Str × Str × Bool) := [("InvalidKinds", "Failed", false), ("InvalidKinds", "InvalidKinds", true), ("InvalidKinds", "InvalidNumber", false), ("InvalidKinds", "InvalidPlace", false), ("InvalidKinds", "InvalidPlan", false), ("InvalidKinds", "InvalidPlayer", false), ("InvalidKinds", "InvalidRoad", false), ("InvalidKinds", "InvalidSign", false), ("InvalidKinds", "InvalidStretch", false), ("InvalidKinds", "InvalidText", false), ("InvalidKinds", "InvalidWay", false), ("InvalidKinds", "NothingToUndo", false), ("InvalidKinds", "RoadError", true), ("InvalidKinds", "TooMany", false), ("InvalidKinds", "ValueError", true)]
def is_InvalidNumber : List (Str × Str × Bool) := [("InvalidNumber", "Failed", false), ("InvalidNumber", "InvalidKinds", false), ("InvalidNumber", "InvalidNumber", true), ("InvalidNumber", "InvalidPlace", false), ("InvalidNumber", "InvalidPlan", false), ("InvalidNumber", "InvalidPlayer", false), ("InvalidNumber", "InvalidRoad", false), ("InvalidNumber", "InvalidSign", false), ("InvalidNumber", "InvalidStretch", false), ("InvalidNumber", "InvalidText", false), ("InvalidNumber", "InvalidWay", false), ("InvalidNumber", "NothingToUndo", false), ("InvalidNumber", "RoadError", true), ("InvalidNumber", "TooMany", false), ("InvalidNumber", "ValueError", true)]
def is_InvalidPlace : List (Str × Str × Bool) := [("InvalidPlace", "Failed", false), ("InvalidPlace", "InvalidKinds", false), ("InvalidPlace", "InvalidNumber", false), ("InvalidPlace", "InvalidPlace", true), ("InvalidPlace", "InvalidPlan", false), ("InvalidPlace", "InvalidPlayer", false), ("InvalidPlace", "InvalidRoad", false), ("InvalidPlace", "InvalidSign", false), ("InvalidPlace", "InvalidStretch", false), ("InvalidPlace", "InvalidText", false), ("InvalidPlace", "InvalidWay", false), ("InvalidPlace", "NothingToUndo", false), ("InvalidPlace", "RoadError", true), ("InvalidPlace", "TooMany", false), ("InvalidPlace", "ValueError", true)]
def is_InvalidPlan : List (Str × Str × Bool) := [("InvalidPlan", "Failed", false), ("InvalidPlan", "InvalidKinds", false), ("InvalidPlan", "InvalidNumber", false), ("InvalidPlan", "InvalidPlace", false), ("InvalidPlan", "InvalidPlan", true), ("InvalidPlan", "InvalidPlayer", false), ("InvalidPlan", "InvalidRoad", false), ("InvalidPlan", "InvalidSign", false), ("InvalidPlan", "InvalidStretch", false), ("InvalidPlan", "InvalidText", false), ("InvalidPlan", "InvalidWay", false), ("InvalidPlan", "NothingToUndo", false), ("InvalidPlan", "RoadError", true), ("InvalidPlan", "TooMany", false), ("InvalidPlan", "ValueError", true)]
def is_InvalidPlayer : List (Str × Str × Bool) := [("InvalidPlayer", "Failed", false), ("InvalidPlayer", "InvalidKinds", false), ("InvalidPlayer", "InvalidNumber", false), ("InvalidPlayer", "InvalidPlace", false), ("InvalidPlayer", "InvalidPlan", false), ("InvalidPlayer", "InvalidPlayer", true), ("InvalidPlayer", "InvalidRoad", false), ("InvalidPlayer", "InvalidSign", false), ("InvalidPlayer", "InvalidStretch", false), ("InvalidPlayer", "InvalidText", false), ("InvalidPlayer", "InvalidWay", false), ("InvalidPlayer", "NothingToUndo", false), ("InvalidPlayer", "RoadError", true), ("InvalidPlayer", "TooMany", false), ("InvalidPlayer", "ValueError", true)]
def is_InvalidRoad : List (Str × Str × Bool) := [("InvalidRoad", "Failed", false), ("InvalidRoad", "InvalidKinds", false), ("InvalidRoad", "InvalidNumber", false), ("InvalidRoad", "InvalidPlace", false), ("InvalidRoad", "InvalidPlan", false), ("InvalidRoad", "InvalidPlayer", false), ("InvalidRoad", "InvalidRoad", true), ("InvalidRoad", "InvalidSign", false), ("InvalidRoad", "InvalidStretch", false), ("InvalidRoad", "InvalidText", false), ("InvalidRoad", "InvalidWay", false), ("InvalidRoad", "NothingToUndo", false), ("InvalidRoad", "RoadError", true), ("InvalidRoad", "TooMany", false), ("InvalidRoad", "ValueError", true)]
def is_InvalidSign : List (Str × Str × Bool) := [("InvalidSign", "Failed", false), ("InvalidSign", "InvalidKinds", false), ("InvalidSign", "InvalidNumber", false), ("InvalidSign", "InvalidPlace", false), ("InvalidSign", "InvalidPlan", false), ("InvalidSign", "InvalidPlayer", false), ("InvalidSign", "InvalidRoad", false), ("InvalidSign", "InvalidSign", true), ("InvalidSign", "InvalidStretch", false), ("InvalidSign", "InvalidText", false), ("InvalidSign", "InvalidWay", false), ("InvalidSign", "NothingToUndo", false), ("InvalidSign", "RoadError", true), ("InvalidSign", "TooMany", false), ("InvalidSign", "ValueError", true)]
def is_InvalidStretch : List (Str × Str × Bool) := [("InvalidStretch", "Failed", false), ("InvalidStretch", "InvalidKinds", false), ("InvalidStretch", "InvalidNumber", false), ("InvalidStretch", "InvalidPlace", false), ("InvalidStretch", "InvalidPlan", false), ("InvalidStretch", "InvalidPlayer", false), ("InvalidStretch", "InvalidRoad", false), ("InvalidStretch", "InvalidSign", false), ("InvalidStretch", "InvalidStretch", true), ("InvalidStretch", "InvalidText", false), ("InvalidStretch", "InvalidWay", false), ("InvalidStretch", "NothingToUndo", false), ("InvalidStretch", "RoadError", true), ("InvalidStretch", "TooMany", false), ("InvalidStretch", "ValueError", true)]
def is_InvalidText : List (Str × Str × Bool) := [("InvalidText", "Failed", false), ("InvalidText", "InvalidKinds", false), ("InvalidText", "InvalidNumber", false), ("InvalidText", "InvalidPlace", false), ("InvalidText", "InvalidPlan", false), ("InvalidText", "InvalidPlayer", false), ("InvalidText", "InvalidRoad", false), ("InvalidText", "InvalidSign", false), ("InvalidText", "InvalidStretch", false), ("InvalidText", "InvalidText", true), ("InvalidText", "InvalidWay", false), ("InvalidText", "NothingToUndo", false), ("InvalidText", "RoadError", true), ("InvalidText", "TooMany", false), ("InvalidText", "ValueError", true)]
def is_InvalidWay : List (Str × Str × Bool) := [("InvalidWay", "Failed", false), ("InvalidWay", "InvalidKinds", false), ("InvalidWay", "InvalidNumber", false), ("InvalidWay", "InvalidPlace", false), ("InvalidWay", "InvalidPlan", false), ("InvalidWay", "InvalidPlayer", false), ("InvalidWay", "InvalidRoad", false), ("InvalidWay", "InvalidSign", false), ("InvalidWay", "InvalidStretch", false), ("InvalidWay", "InvalidText", false), ("InvalidWay", "InvalidWay", true), ("InvalidWay", "NothingToUndo", false), ("InvalidWay", "RoadError", true), ("InvalidWay", "TooMany", false), ("InvalidWay", "ValueError", true)]
def is_NothingToUndo : List (Str × Str × Bool) := [("NothingToUndo", "Failed", false), ("NothingToUndo", "InvalidKinds", false), ("NothingToUndo", "InvalidNumber", false), ("NothingToUndo", "InvalidPlace", false), ("NothingToUndo", "InvalidPlan", false), ("NothingToUndo", "InvalidPlayer", false), ("NothingToUndo", "InvalidRoad", false), ("NothingToUndo", "InvalidSign", false), ("NothingToUndo", "InvalidStretch", false), ("NothingToUndo", "InvalidText", false), ("NothingToUndo", "InvalidWay", false), ("NothingToUndo", "NothingToUndo", true), ("NothingToUndo", "RoadError", true), ("NothingToUndo", "TooMany", false), ("NothingToUndo", "ValueError", true)]
def is_RoadError : List (Str × Str × Bool) := [("RoadError", "Failed", false), ("RoadError", "InvalidKinds", false), ("RoadError", "InvalidNumber", false), ("RoadError", "InvalidPlace", false), ("RoadError", "InvalidPlan", false), ("RoadError", "InvalidPlayer", false), ("RoadError", "InvalidRoad", false), ("RoadError", "InvalidSign", false), ("RoadError", "InvalidStretch", false), ("RoadError", "InvalidText", false), ("RoadError", "InvalidWay", false), ("RoadError", "NothingToUndo", false), ("RoadError", "RoadError", true), ("RoadError", "TooMany", false), ("RoadError", "ValueError", true)]
def is_TooMany : List (Str × Str × Bool) := [("TooMany", "Failed", false), ("TooMany", "InvalidKinds", false), ("TooMany", "InvalidNumber", false), ("TooMany", "InvalidPlace", false), ("TooMany", "InvalidPlan", false), ("TooMany", "InvalidPlayer", false), ("TooMany", "InvalidRoad", false), ("TooMany", "InvalidSign", false), ("TooMany", "InvalidStretch", false), ("TooMany", "InvalidText", false), ("TooMany", "InvalidWay", false), ("TooMany", "NothingToUndo", false), ("TooMany", "RoadError", true), ("TooMany", "TooMany", true), ("TooMany", "ValueError", true)]
def is_t : List (Str × Str × Bool) := is_Failed ++ (is_InvalidKinds ++ (is_InvalidNumber ++ (is_InvalidPlace ++ (is_InvalidPlan ++ (is_InvalidPlayer ++ (is_InvalidRoad ++ (is_InvalidSign ++ (is_InvalidStretch ++ (is_InvalidText ++ (is_InvalidWay ++ (is_NothingToUndo ++ (is_RoadError ++ (is_TooMany)))))))))))))
def fc_limit : List Str := ["TooMany"]
def fc_line : List Str := ["InvalidText"]
def fc_place : List Str := ["Failed"]
def st_cs : List Str := ["InvalidKinds", "InvalidNumber", "InvalidPlace", "InvalidPlan", "InvalidPlayer", "InvalidRoad", "InvalidSign", "InvalidStretch", "InvalidWay", "NothingToUndo", "RoadError"]
/-- what the top has left: the built-in names, the constants, the classes -/
structure Bn (P : Program) (w : World) (K : PySem.W.Frag) (mg : Str → Option Value) (T : List (Addr × Str)) : Prop where
  int : mg "int" = none
  isinstance : mg "isinstance" = none
  len : mg "len" = none
  range : mg "range" = none
  str : mg "str" = none
  x_InvalidKinds : XC ⟨P, w, K, mg, T⟩ "InvalidKinds"
  x_InvalidNumber : XC ⟨P, w, K, mg, T⟩ "InvalidNumber"
  x_InvalidPlace : XC ⟨P, w, K, mg, T⟩ "InvalidPlace"
  x_InvalidPlan : XC ⟨P, w, K, mg, T⟩ "InvalidPlan"
  x_InvalidPlayer : XC ⟨P, w, K, mg, T⟩ "InvalidPlayer"
  x_InvalidRoad : XC ⟨P, w, K, mg, T⟩ "InvalidRoad"
  x_InvalidSign : XC ⟨P, w, K, mg, T⟩ "InvalidSign"
  x_InvalidStretch : XC ⟨P, w, K, mg, T⟩ "InvalidStretch"
  x_InvalidWay : XC ⟨P, w, K, mg, T⟩ "InvalidWay"
  x_NothingToUndo : XC ⟨P, w, K, mg, T⟩ "NothingToUndo"
  x_RoadError : XC ⟨P, w, K, mg, T⟩ "RoadError"
  isx : XK ⟨P, w, K, mg, T⟩ is_t
  h_Failed : ∃ cv, (mg "Failed" = some cv ∧ ∃ D, cv = .ref D) ∨ (mg "Failed" = none ∧ bootBuiltins "Failed" = some (.type "ValueError") ∧ cv = .type "ValueError")
  h_InvalidKinds : ∃ cv, (mg "InvalidKinds" = some cv ∧ ∃ D, cv = .ref D) ∨ (mg "InvalidKinds" = none ∧ bootBuiltins "InvalidKinds" = some (.type "ValueError") ∧ cv = .type "ValueError")
  h_InvalidNumber : ∃ cv, (mg "InvalidNumber" = some cv ∧ ∃ D, cv = .ref D) ∨ (mg "InvalidNumber" = none ∧ bootBuiltins "InvalidNumber" = some (.type "ValueError") ∧ cv = .type "ValueError")
  h_InvalidPlace : ∃ cv, (mg "InvalidPlace" = some cv ∧ ∃ D, cv = .ref D) ∨ (mg "InvalidPlace" = none ∧ bootBuiltins "InvalidPlace" = some (.type "ValueError") ∧ cv = .type "ValueError")
  h_InvalidPlan : ∃ cv, (mg "InvalidPlan" = some cv ∧ ∃ D, cv = .ref D) ∨ (mg "InvalidPlan" = none ∧ bootBuiltins "InvalidPlan" = some (.type "ValueError") ∧ cv = .type "ValueError")
  h_InvalidPlayer : ∃ cv, (mg "InvalidPlayer" = some cv ∧ ∃ D, cv = .ref D) ∨ (mg "InvalidPlayer" = none ∧ bootBuiltins "InvalidPlayer" = some (.type "ValueError") ∧ cv = .type "ValueError")
  h_InvalidRoad : ∃ cv, (mg "InvalidRoad" = some cv ∧ ∃ D, cv = .ref D) ∨ (mg "InvalidRoad" = none ∧ bootBuiltins "InvalidRoad" = some (.type "ValueError") ∧ cv = .type "ValueError")
  h_InvalidSign : ∃ cv, (mg "InvalidSign" = some cv ∧ ∃ D, cv = .ref D) ∨ (mg "InvalidSign" = none ∧ bootBuiltins "InvalidSign" = some (.type "ValueError") ∧ cv = .type "ValueError")
  h_InvalidStretch : ∃ cv, (mg "InvalidStretch" = some cv ∧ ∃ D, cv = .ref D) ∨ (mg "InvalidStretch" = none ∧ bootBuiltins "InvalidStretch" = some (.type "ValueError") ∧ cv = .type "ValueError")
  h_InvalidText : ∃ cv, (mg "InvalidText" = some cv ∧ ∃ D, cv = .ref D) ∨ (mg "InvalidText" = none ∧ bootBuiltins "InvalidText" = some (.type "ValueError") ∧ cv = .type "ValueError")
  h_InvalidWay : ∃ cv, (mg "InvalidWay" = some cv ∧ ∃ D, cv = .ref D) ∨ (mg "InvalidWay" = none ∧ bootBuiltins "InvalidWay" = some (.type "ValueError") ∧ cv = .type "ValueError")
  h_NothingToUndo : ∃ cv, (mg "NothingToUndo" = some cv ∧ ∃ D, cv = .ref D) ∨ (mg "NothingToUndo" = none ∧ bootBuiltins "NothingToUndo" = some (.type "ValueError") ∧ cv = .type "ValueError")
  h_RoadError : ∃ cv, (mg "RoadError" = some cv ∧ ∃ D, cv = .ref D) ∨ (mg "RoadError" = none ∧ bootBuiltins "RoadError" = some (.type "ValueError") ∧ cv = .type "ValueError")
  h_TooMany : ∃ cv, (mg "TooMany" = some cv ∧ ∃ D, cv = .ref D) ∨ (mg "TooMany" = none ∧ bootBuiltins "TooMany" = some (.type "ValueError") ∧ cv = .type "ValueError")
  h_ValueError : ∃ cv, (mg "ValueError" = some cv ∧ ∃ D, cv = .ref D) ∨ (mg "ValueError" = none ∧ bootBuiltins "ValueError" = some (.type "ValueError") ∧ cv = .type "ValueError")
  f_limit : XFs ⟨P, w, K, mg, T⟩ fc_limit "limit"
  f_line : XFs ⟨P, w, K, mg, T⟩ fc_line "line"
  f_place : XFs ⟨P, w, K, mg, T⟩ fc_place "place"
  strx : XTs ⟨P, w, K, mg, T⟩ st_cs
noncomputable section
variable {P : Program} {w : World} {K : PySem.W.Frag} {mg : Str → Option Value} {base : Heap} {T : List (Addr × Str)}
abbrev si_Failed : Stmt := inClass (topS 14) 0
abbrev pi_Failed : List Str := ["self", "place"]
theorem sc_Failed : FnScope ["self", "place"] ["self", "place"] (defScope si_Failed) := ⟨rfl, rfl, rfl, by decide +kernel, rfl, by decide +kernel, by decide +kernel⟩
theorem ini_Failed {f R : Addr} {mc : Value} {fd : FuncData} (F : Fun K "__init__" "Failed.__init__" si_Failed f fd) (mr : mg "RoadError" = some (.ref R)) (cr : ClX.CRead K R mc) (cv : PySem.W.findCls K (.ref R) mc "__init__" = some (.val (.builtin "ValueError.__init__"))) : FnOk P w K mg base (L2.CX P w) 1 f fd pi_Failed (spIni K "place") :=
  ini_ok (k := 0) F sc_Failed fun cdv A outer z H E => pss_cons (ps_expr (pe_ceinit rfl mr cr cv (pa_cons (pv 0) (pa_cons pe_str pa_nil)))) (pss_one (ps_ost (pv 0) (pv 1)))
abbrev si_InvalidText : Stmt := inClass (topS 13) 0
abbrev pi_InvalidText : List Str := ["self", "line"]
theorem sc_InvalidText : FnScope ["self", "line"] ["self", "line"] (defScope si_InvalidText) := ⟨rfl, rfl, rfl, by decide +kernel, rfl, by decide +kernel, by decide +kernel⟩
theorem ini_InvalidText {f R : Addr} {mc : Value} {fd : FuncData} (F : Fun K "__init__" "InvalidText.__init__" si_InvalidText f fd) (mr : mg "RoadError" = some (.ref R)) (cr : ClX.CRead K R mc) (cv : PySem.W.findCls K (.ref R) mc "__init__" = some (.val (.builtin "ValueError.__init__"))) : FnOk P w K mg base (L2.CX P w) 1 f fd pi_InvalidText (spIni K "line") :=
  ini_ok (k := 0) F sc_InvalidText fun cdv A outer z H E => pss_cons (ps_expr (pe_ceinit rfl mr cr cv (pa_cons (pv 0) (pa_cons pe_str pa_nil)))) (pss_one (ps_ost (pv 0) (pv 1)))
abbrev si_TooMany : Stmt := inClass (topS 12) 0
abbrev pi_TooMany : List Str := ["self", "limit"]
theorem sc_TooMany : FnScope ["self", "limit"] ["self", "limit"] (defScope si_TooMany) := ⟨rfl, rfl, rfl, by decide +kernel, rfl, by decide +kernel, by decide +kernel⟩
theorem ini_TooMany {f R : Addr} {mc : Value} {fd : FuncData} (F : Fun K "__init__" "TooMany.__init__" si_TooMany f fd) (mr : mg "RoadError" = some (.ref R)) (cr : ClX.CRead K R mc) (cv : PySem.W.findCls K (.ref R) mc "__init__" = some (.val (.builtin "ValueError.__init__"))) : FnOk P w K mg base (L2.CX P w) 1 f fd pi_TooMany (spIni K "limit") :=
  ini_ok (k := 0) F sc_TooMany fun cdv A outer z H E => pss_cons (ps_expr (pe_ceinit rfl mr cr cv (pa_cons (pv 0) (pa_cons pe_str pa_nil)))) (pss_one (ps_ost (pv 0) (pv 1)))
abbrev s__law_sack : Stmt := topS 16
abbrev N__law_sack : List Str := ["cell", "salt", "great"]
abbrev p__law_sack : List Str := ["cell", "salt"]
theorem c__law_sack : FnScope N__law_sack p__law_sack (defScope s__law_sack) := ⟨rfl, rfl, rfl, by decide +kernel, rfl, by decide +kernel, by decide +kernel⟩
def m__law_sack : MS :=
  (seqM (asgM (iteM (tstM (op2M geG (varM 0) (op2M powG (conM (.int 10)) (conM (.int 18))))) (op2M addG (op2M fdivG (varM 0) (conM (.int 10))) (op2M mulG (conM (.int 41)) (varM 1))) (conM (.int 0))) (namG 2))
    (retM (nlsM [(varM 2), (op2M addG (op2M modG (biM intG [(op2M addG (op2M mulG (varM 0) (conM (.int 73))) (op2M mulG (conM (.int 1039)) (varM 1)))]) (conM (.int 2017504241))) (conM (.int 43)))])))
def F__law_sack : List D → RNw := runN 3 m__law_sack
theorem d__law_sack {f : Addr} {k : Nat} (B : Bn P w K mg T) : Der P w K mg base T N__law_sack "_law_sack" s__law_sack f k m__law_sack := fun cdv A outer s H E hr hu tk po =>
  have nd : N__law_sack.Nodup := c__law_sack.nd; have hu4 := Nat.lt_of_succ_lt hu
  (s_cons (s_set 2 nd (e_if (t_cmp o_ge (e_var 0) (e_op o_pow e_int e_int)) (e_op o_add (e_op o_fdiv (e_var 0) e_int) (e_op o_mul e_int (e_var 1))) e_int))
    (s_one (s_ret (e_nls (a_cons (e_var 2) (a_cons (e_op o_add (e_op o_mod (e_biT c_int B.int blt_int (a_cons (e_op o_add (e_op o_mul (e_var 0) e_int) (e_op o_mul e_int (e_var 1))) a_nil)) e_int) e_int) a_nil))))))
theorem ok__law_sack {f : Addr} {fd : FuncData} {k : Nat} (B : Bn P w K mg T) (Fu : Fun K "_law_sack" "_law_sack" s__law_sack f fd) : FnOk P w K mg base (L2.CX P w) (k + 1) f fd p__law_sack (spN ⟨P, w, K, mg, T⟩ 2 F__law_sack) :=
  okN Fu c__law_sack (d__law_sack B) rfl (fun _ _ => rfl)
abbrev s__law_grip : Stmt := topS 17
abbrev N__law_grip : List Str := ["sack", "many", "deep", "found"]
abbrev p__law_grip : List Str := ["sack", "many"]
theorem c__law_grip : FnScope N__law_grip p__law_grip (defScope s__law_grip) := ⟨rfl, rfl, rfl, by decide +kernel, rfl, by decide +kernel, by decide +kernel⟩
def m__law_grip : MS :=
  (seqM (ifM (tstM (op2M gtG (op2M ixG (varM 0) (conM (.int 0))) (conM (.int 0)))) (seqM (asgM (op2M modG (biM intG [(op2M ixG (varM 0) (conM (.int 0)))]) (varM 1)) (namG 3))
    (seqM (setM (varM 0) (conM (.int 0)) (op2M fdivG (op2M ixG (varM 0) (conM (.int 0))) (varM 1)))
    (retM (varM 3)))) nxtM)
    (seqM (setM (varM 0) (conM (.int 1)) (op2M modG (biM intG [(op2M addG (op2M mulG (op2M ixG (varM 0) (conM (.int 1))) (conM (.int 35023))) (conM (.int 9001)))]) (conM (.int 2147483549))))
    (seqM (asgM (op2M modG (biM intG [(op2M mulG (op2M ixG (varM 0) (conM (.int 1))) (op2M addG (op2M ixG (varM 0) (conM (.int 1))) (conM (.int 79))))]) (conM (.int 2147483587))) (namG 2))
    (retM (op2M modG (biM intG [(op2M fdivG (varM 2) (conM (.int 593)))]) (varM 1))))))
def F__law_grip : List D → Cell → R1 := run1 4 0 m__law_grip
theorem d__law_grip {f : Addr} {k : Nat} (B : Bn P w K mg T) : Der P w K mg base T N__law_grip "_law_grip" s__law_grip f k m__law_grip := fun cdv A outer s H E hr hu tk po =>
  have nd : N__law_grip.Nodup := c__law_grip.nd; have hu4 := Nat.lt_of_succ_lt hu
  (s_cons (s_if (t_cmp o_gt (e_ix hu (e_var 0) e_int) e_int) (s_cons (s_set 3 nd (e_op o_mod (e_biT c_int B.int blt_int (a_cons (e_ix hu (e_var 0) e_int) a_nil)) (e_var 1)))
    (s_cons (s_setI hu (e_op o_fdiv (e_ix hu (e_var 0) e_int) (e_var 1)) (e_var 0) e_int)
    (s_one (s_ret (e_var 3))))) s_nil)
    (s_cons (s_setI hu (e_op o_mod (e_biT c_int B.int blt_int (a_cons (e_op o_add (e_op o_mul (e_ix hu (e_var 0) e_int) e_int) e_int) a_nil)) e_int) (e_var 0) e_int)
    (s_cons (s_set 2 nd (e_op o_mod (e_biT c_int B.int blt_int (a_cons (e_op o_mul (e_ix hu (e_var 0) e_int) (e_op o_add (e_ix hu (e_var 0) e_int) e_int)) a_nil)) e_int))
    (s_one (s_ret (e_op o_mod (e_biT c_int B.int blt_int (a_cons (e_op o_fdiv (e_var 2) e_int) a_nil)) (e_var 1)))))))
theorem ok__law_grip {f : Addr} {fd : FuncData} {k : Nat} (B : Bn P w K mg T) (Fu : Fun K "_law_grip" "_law_grip" s__law_grip f fd) : FnOk P w K mg base (L2.CX P w) (k + 1) f fd p__law_grip (sp1 ⟨P, w, K, mg, T⟩ 2 0 F__law_grip) :=
  ok1 Fu c__law_grip (d__law_grip B) rfl (fun _ _ _ => rfl)
abbrev s__law_pick : Stmt := topS 18
abbrev N__law_pick : List Str := ["sack", "things"]
abbrev p__law_pick : List Str := ["sack", "things"]
theorem c__law_pick : FnScope N__law_pick p__law_pick (defScope s__law_pick) := ⟨rfl, rfl, rfl, by decide +kernel, rfl, by decide +kernel, by decide +kernel⟩
def m__law_pick : MS :=
  (retM (op2M ixG (varM 1) (callC 0 F__law_grip [(varM 0), (biM lenG [(varM 1)])])))
def F__law_pick : List D → Cell → R1 := run1 2 0 m__law_pick
theorem d__law_pick {f : Addr} {k : Nat} (B : Bn P w K mg T) (h__law_grip : Kn ⟨P, w, K, mg, T⟩ base k "_law_grip" (sp1 ⟨P, w, K, mg, T⟩ 2 0 F__law_grip)) : Der P w K mg base T N__law_pick "_law_pick" s__law_pick f k m__law_pick := fun cdv A outer s H E hr hu tk po =>
  have nd : N__law_pick.Nodup := c__law_pick.nd; have hu4 := Nat.lt_of_succ_lt hu
  (s_one (s_ret (e_ix hu (e_var 1) (e_callC h__law_grip hr tk rfl (a_cons (e_var 0) (a_cons (e_bi c_len B.len blt_len (a_cons (e_var 1) a_nil)) a_nil))))))
theorem ok__law_pick {f : Addr} {fd : FuncData} {k : Nat} (B : Bn P w K mg T) (h__law_grip : Kn ⟨P, w, K, mg, T⟩ base k "_law_grip" (sp1 ⟨P, w, K, mg, T⟩ 2 0 F__law_grip)) (Fu : Fun K "_law_pick" "_law_pick" s__law_pick f fd) : FnOk P w K mg base (L2.CX P w) (k + 1) f fd p__law_pick (sp1 ⟨P, w, K, mg, T⟩ 2 0 F__law_pick) :=
  ok1 Fu c__law_pick (d__law_pick B h__law_grip) rfl (fun _ _ _ => rfl)
abbrev s__law_which : Stmt := topS 19
abbrev N__law_which : List Str := ["error", "found"]
abbrev p__law_which : List Str := ["error"]
theorem c__law_which : FnScope N__law_which p__law_which (defScope s__law_which) := ⟨rfl, rfl, rfl, by decide +kernel, rfl, by decide +kernel, by decide +kernel⟩
def m__law_which : MS :=
  (seqM (asgM (lstM [(isxM is_t "InvalidKinds" (varM 0)), (isxM is_t "InvalidStretch" (varM 0)), (isxM is_t "InvalidRoad" (varM 0))]) (namG 1))
    (seqM (asgM (op2M addG (varM 1) (lstM [(isxM is_t "InvalidNumber" (varM 0)), (isxM is_t "InvalidPlace" (varM 0))])) (namG 1))
    (seqM (asgM (op2M addG (varM 1) (lstM [(isxM is_t "InvalidPlayer" (varM 0)), (isxM is_t "InvalidSign" (varM 0))])) (namG 1))
    (seqM (asgM (op2M addG (varM 1) (lstM [(isxM is_t "InvalidPlan" (varM 0)), (isxM is_t "InvalidWay" (varM 0)), (isxM is_t "NothingToUndo" (varM 0))])) (namG 1))
    (retM (op2M addG (varM 1) (lstM [(isxM is_t "TooMany" (varM 0)), (isxM is_t "InvalidText" (varM 0)), (isxM is_t "Failed" (varM 0))])))))))
def F__law_which : List D → R := run0 2 m__law_which
theorem d__law_which {f : Addr} {k : Nat} (B : Bn P w K mg T) : Der P w K mg base T N__law_which "_law_which" s__law_which f k m__law_which := fun cdv A outer s H E hr hu tk po =>
  have nd : N__law_which.Nodup := c__law_which.nd; have hu4 := Nat.lt_of_succ_lt hu
  (s_cons (s_set 1 nd (e_lst (a_cons (e_isx B.isx B.isinstance B.h_InvalidKinds (e_var 0)) (a_cons (e_isx B.isx B.isinstance B.h_InvalidStretch (e_var 0)) (a_cons (e_isx B.isx B.isinstance B.h_InvalidRoad (e_var 0)) a_nil)))))
    (s_cons (s_set 1 nd (e_op o_add (e_var 1) (e_lst (a_cons (e_isx B.isx B.isinstance B.h_InvalidNumber (e_var 0)) (a_cons (e_isx B.isx B.isinstance B.h_InvalidPlace (e_var 0)) a_nil)))))
    (s_cons (s_set 1 nd (e_op o_add (e_var 1) (e_lst (a_cons (e_isx B.isx B.isinstance B.h_InvalidPlayer (e_var 0)) (a_cons (e_isx B.isx B.isinstance B.h_InvalidSign (e_var 0)) a_nil)))))
    (s_cons (s_set 1 nd (e_op o_add (e_var 1) (e_lst (a_cons (e_isx B.isx B.isinstance B.h_InvalidPlan (e_var 0)) (a_cons (e_isx B.isx B.isinstance B.h_InvalidWay (e_var 0)) (a_cons (e_isx B.isx B.isinstance B.h_NothingToUndo (e_var 0)) a_nil))))))
    (s_one (s_ret (e_op o_add (e_var 1) (e_lst (a_cons (e_isx B.isx B.isinstance B.h_TooMany (e_var 0)) (a_cons (e_isx B.isx B.isinstance B.h_InvalidText (e_var 0)) (a_cons (e_isx B.isx B.isinstance B.h_Failed (e_var 0)) a_nil)))))))))))
theorem ok__law_which {f : Addr} {fd : FuncData} {k : Nat} (B : Bn P w K mg T) (Fu : Fun K "_law_which" "_law_which" s__law_which f fd) : FnOk P w K mg base (L2.CX P w) (k + 1) f fd p__law_which (sp0 ⟨P, w, K, mg, T⟩ 1 F__law_which) :=
  ok0 Fu c__law_which (d__law_which B) rfl (fun _ _ => rfl)
abbrev s_law : Stmt := topS 20
abbrev N_law : List Str := ["script", "cell", "sack", "text", "number", "errors", "at", "place"]
abbrev p_law : List Str := ["script"]
theorem c_law : FnScope N_law p_law (defScope s_law) := ⟨rfl, rfl, rfl, by decide +kernel, rfl, by decide +kernel, by decide +kernel⟩
def C_law_1 : ME :=
  (lcM (rng1I (conM (.int 13))) (.one 7) yesM (op2M eqG (varM 7) (varM 6)) [7])
def B_law_1 : MS :=
  (seqM (ifM (tstM (op2M neG (callM F__law_which [(op2M ixG (varM 5) (varM 6))]) C_law_1)) (retM (conM (.bl false))) nxtM)
    (seqM (ifM (orT (notT (tstM (isxM is_t "RoadError" (op2M ixG (varM 5) (varM 6))))) (notT (tstM (isxM is_t "ValueError" (op2M ixG (varM 5) (varM 6)))))) (retM (conM (.bl false))) nxtM)
    (ifM (andT (tstM (op2M ltG (varM 6) (conM (.int 10)))) (tstM (op2M neG (strsM st_cs (op2M ixG (varM 5) (varM 6))) (varM 3)))) (retM (conM (.bl false))) nxtM)))
def B_law_2 : MS :=
  (scpM [2] (seqM (asgM (callN F__law_sack [(varM 1), (conM (.int 117))]) (namG 2))
    (seqM (parsM [3, 4] [(callC 0 F__law_pick [(varM 2), (lstM [(conM (.str "")), (conM (.str "a road")), (conM (.str "a stone on it"))])]), (callC 0 F__law_grip [(varM 2), (conM (.int 500))])])
    (seqM (asgM (lstM [(mkxM "InvalidKinds" (varM 3)), (mkxM "InvalidStretch" (varM 3)), (mkxM "InvalidRoad" (varM 3)), (mkxM "InvalidNumber" (varM 3)), (mkxM "InvalidPlace" (varM 3))]) (namG 5))
    (seqM (asgM (op2M addG (varM 5) (lstM [(mkxM "InvalidPlayer" (varM 3)), (mkxM "InvalidSign" (varM 3)), (mkxM "InvalidPlan" (varM 3))])) (namG 5))
    (seqM (asgM (op2M addG (varM 5) (lstM [(mkxM "InvalidWay" (varM 3)), (mkxM "NothingToUndo" (varM 3))])) (namG 5))
    (seqM (asgM (op2M addG (varM 5) (lstM [(mkiM "TooMany" "limit" (varM 4)), (mkiM "InvalidText" "line" (varM 4)), (mkiM "Failed" "place" (varM 4))])) (namG 5))
    (seqM (forM (rng1I (conM (.int 13))) (namG 6)
    B_law_1)
    (seqM (ifM (tstM (op2M neG (lstM [(fdxM fc_limit "limit" (op2M ixG (varM 5) (conM (.int 10)))), (fdxM fc_line "line" (op2M ixG (varM 5) (conM (.int 11)))), (fdxM fc_place "place" (op2M ixG (varM 5) (conM (.int 12))))]) (op2M mulG (lstM [(varM 4)]) (conM (.int 3))))) (retM (conM (.bl false))) nxtM)
    (ifM (tstM (op2M neG (callM F__law_which [(mkxM "RoadError" (varM 3))]) (op2M mulG (lstM [(conM (.bl false))]) (conM (.int 13))))) (retM (conM (.bl false))) nxtM))))))))))
def m_law : MS :=
  (seqM (forM (seqI (slM (op2M addG (lstM [(conM (.int 0))]) (varM 0)) noP (someP (conM (.int 6))))) (namG 1)
    B_law_2)
    (retM (conM (.bl true))))
def F_law : List D → R := run0 8 m_law
theorem d_law {f : Addr} {k : Nat} (B : Bn P w K mg T) (h__law_sack : Kn ⟨P, w, K, mg, T⟩ base k "_law_sack" (spN ⟨P, w, K, mg, T⟩ 2 F__law_sack)) (h__law_pick : Kn ⟨P, w, K, mg, T⟩ base k "_law_pick" (sp1 ⟨P, w, K, mg, T⟩ 2 0 F__law_pick)) (h__law_grip : Kn ⟨P, w, K, mg, T⟩ base k "_law_grip" (sp1 ⟨P, w, K, mg, T⟩ 2 0 F__law_grip)) (h__law_which : Kn ⟨P, w, K, mg, T⟩ base k "_law_which" (sp0 ⟨P, w, K, mg, T⟩ 1 F__law_which)) (xi_Failed : XI ⟨P, w, K, mg, T⟩ base 1 "Failed" "place") (xi_InvalidText : XI ⟨P, w, K, mg, T⟩ base 1 "InvalidText" "line") (xi_TooMany : XI ⟨P, w, K, mg, T⟩ base 1 "TooMany" "limit") (hk : 2 ≤ k) : Der P w K mg base T N_law "law" s_law f k m_law := fun cdv A outer s H E hr hu tk po =>
  have nd : N_law.Nodup := c_law.nd; have hu4 := Nat.lt_of_succ_lt hu
  (s_cons (s_for po rfl (i_seq (e_sl (e_op o_add (e_lst (a_cons e_int a_nil)) (e_var 0)) p_none (p_some e_int))) (g_nam 1 nd)
    (s_scp [2] (s_cons (s_set 2 nd (e_callN h__law_sack hr tk rfl (a_cons (e_var 1) (a_cons e_int a_nil))))
    (s_cons (s_par2 3 4 rfl nd (a_cons (e_callC h__law_pick hr tk rfl (a_cons (e_var 2) (a_cons (e_lst (a_cons e_str (a_cons e_str (a_cons e_str a_nil)))) a_nil))) (a_cons (e_callC h__law_grip hr tk rfl (a_cons (e_var 2) (a_cons e_int a_nil))) a_nil)))
    (s_cons (s_set 5 nd (e_lst (a_cons (e_mkx B.x_InvalidKinds (e_var 3)) (a_cons (e_mkx B.x_InvalidStretch (e_var 3)) (a_cons (e_mkx B.x_InvalidRoad (e_var 3)) (a_cons (e_mkx B.x_InvalidNumber (e_var 3)) (a_cons (e_mkx B.x_InvalidPlace (e_var 3)) a_nil)))))))
    (s_cons (s_set 5 nd (e_op o_add (e_var 5) (e_lst (a_cons (e_mkx B.x_InvalidPlayer (e_var 3)) (a_cons (e_mkx B.x_InvalidSign (e_var 3)) (a_cons (e_mkx B.x_InvalidPlan (e_var 3)) a_nil))))))
    (s_cons (s_set 5 nd (e_op o_add (e_var 5) (e_lst (a_cons (e_mkx B.x_InvalidWay (e_var 3)) (a_cons (e_mkx B.x_NothingToUndo (e_var 3)) a_nil)))))
    (s_cons (s_set 5 nd (e_op o_add (e_var 5) (e_lst (a_cons (e_mki xi_TooMany (hr.mono hk) (e_var 4)) (a_cons (e_mki xi_InvalidText (hr.mono hk) (e_var 4)) (a_cons (e_mki xi_Failed (hr.mono hk) (e_var 4)) a_nil))))))
    (s_cons (s_for po rfl (i_rng1 B.range (a_cons e_int a_nil)) (g_nam 6 nd)
    (s_cons (s_if (t_cmp (o_ne hu4) (e_call h__law_which hr tk rfl (a_cons (e_ix hu (e_var 5) (e_var 6)) a_nil)) (e_lc (.one 7) [("place", 7)] rfl nd (i_rng1 B.range (a_cons e_int a_nil)) (blkOk_by (N := N_law) (sc := defScope s_law) (by decide +kernel)) (fun _ _ _ _ _ => (pg_name (i := 7) nd rfl (Or.inl rfl))) (fun _ _ _ _ _ tk => ts_nil) (fun _ _ _ _ _ tk => (e_cmp (o_eq hu4) (e_var 7) (e_var 6))) (by decide))) (s_one (s_ret e_bl)) s_nil)
    (s_cons (s_if (PW.pt (w_or (t_not (t_val (e_isx B.isx B.isinstance B.h_RoadError (e_ix hu (e_var 5) (e_var 6))))) (w_or1 (t_not (t_val (e_isx B.isx B.isinstance B.h_ValueError (e_ix hu (e_var 5) (e_var 6)))))))) (s_one (s_ret e_bl)) s_nil)
    (s_one (s_if (PW.pt (w_and (t_cmp o_lt (e_var 6) e_int) (w_and1 (t_cmp (o_ne hu4) (e_strx B.strx (Nat.lt_of_le_of_lt (Nat.add_le_add_left (by decide) _) hu) B.str (e_ix hu (e_var 5) (e_var 6))) (e_var 3))))) (s_one (s_ret e_bl)) s_nil)))))
    (s_cons (s_if (t_cmp (o_ne hu4) (e_lst (a_cons (e_fdx B.f_limit (e_ix hu (e_var 5) e_int)) (a_cons (e_fdx B.f_line (e_ix hu (e_var 5) e_int)) (a_cons (e_fdx B.f_place (e_ix hu (e_var 5) e_int)) a_nil)))) (e_op o_mul (e_lst (a_cons (e_var 4) a_nil)) e_int)) (s_one (s_ret e_bl)) s_nil)
    (s_one (s_if (t_cmp (o_ne hu4) (e_call h__law_which hr tk rfl (a_cons (e_mkx B.x_RoadError (e_var 3)) a_nil)) (e_op o_mul (e_lst (a_cons e_bl a_nil)) e_int)) (s_one (s_ret e_bl)) s_nil))))))))))))
    (s_one (s_ret e_bl)))
theorem ok_law {f : Addr} {fd : FuncData} {k : Nat} (B : Bn P w K mg T) (h__law_sack : Kn ⟨P, w, K, mg, T⟩ base k "_law_sack" (spN ⟨P, w, K, mg, T⟩ 2 F__law_sack)) (h__law_pick : Kn ⟨P, w, K, mg, T⟩ base k "_law_pick" (sp1 ⟨P, w, K, mg, T⟩ 2 0 F__law_pick)) (h__law_grip : Kn ⟨P, w, K, mg, T⟩ base k "_law_grip" (sp1 ⟨P, w, K, mg, T⟩ 2 0 F__law_grip)) (h__law_which : Kn ⟨P, w, K, mg, T⟩ base k "_law_which" (sp0 ⟨P, w, K, mg, T⟩ 1 F__law_which)) (xi_Failed : XI ⟨P, w, K, mg, T⟩ base 1 "Failed" "place") (xi_InvalidText : XI ⟨P, w, K, mg, T⟩ base 1 "InvalidText" "line") (xi_TooMany : XI ⟨P, w, K, mg, T⟩ base 1 "TooMany" "limit") (hk : 2 ≤ k) (Fu : Fun K "law" "law" s_law f fd) : FnOk P w K mg base (L2.CX P w) (k + 1) f fd p_law (sp0 ⟨P, w, K, mg, T⟩ 1 F_law) :=
  ok0 Fu c_law (d_law B h__law_sack h__law_pick h__law_grip h__law_which xi_Failed xi_InvalidText xi_TooMany hk) rfl (fun _ _ => rfl)
end
/-! ### what is drawn -/
def Sk (c : Cell) : Prop := ∃ a b : Int, c = .lst [.int a, .int b]
theorem log_ok {n : Nat} (h : n ≤ 8000) : n.log2 < 9000 := Nat.lt_of_le_of_lt (Nat.log2_le_self n) (by omega)
theorem sack_ok (cell salt : Int) : ∃ c, F__law_sack [.int cell, .int salt] = .ok c ∧ Sk c := by
  have h1 : Nat.log2 10 < 9000 := log_ok (by decide)
  by_cases h : 1000000000000000000 ≤ cell
  · exact ⟨.lst [.int (cell / 10 + 41 * salt), .int ((cell * 73 + 1039 * salt) % 2017504241 + 43)], by simp [F__law_sack, m__law_sack, Mir.seqM, Mir.retM, Mir.retNM, Mir.drpM, Mir.asgM, Mir.ifM, Mir.toS, Mir.namG, Mir.tupG, Mir.allG, Mir.lsuG, Mir.varM, Mir.conM, Mir.op2M, Mir.op1M, Mir.tstM, Mir.andM, Mir.orM, Mir.notM, Mir.andT, Mir.orT, Mir.notT, Mir.iteM, Mir.chM, Mir.biM, Mir.isM, Mir.callM, Mir.callC, Mir.callN, Mir.argsM, Mir.O.bind, Mir.rd, Mir.rds, Mir.pures, Mir.tupM, Mir.lstM, Mir.nlsM, Mir.slM, Mir.noP, Mir.someP, Mir.slG, Mir.lcM, Mir.nlcM, Mir.wipeE, Mir.seqI, Mir.rng1I, Mir.rng2I, Mir.zpBI, Mir.seqU, Mir.strI, Mir.forM, Mir.setM, Mir.setC, Mir.parsM, Mir.setUs, Mir.meM, Mir.joinG, Mir.splG, Mir.lenG, Mir.intG, Mir.strG, Mir.listG, Mir.tupleG, Mir.isdic, Mir.isE, Mir.ixG, Mir.addG, Mir.subG, Mir.mulG, Mir.mulOk, Mir.fdivG, Mir.modG, Mir.powG, Mir.negG, Mir.ltG, Mir.leG, Mir.gtG, Mir.geG, Mir.isG, Mir.isNotG, Mir.isNon, Mir.env0, Mir.ins1, Mir.run0, Mir.run1, Mir.runN, Mir.frz, Mir.nxtM, Mir.unM, Mir.appM, Mir.isLst, Mir.kmIx, Mir.kmIn, Mir.scpM, Mir.lowU, Mir.lzpM, Mir.lixM, Mir.lixG, Mir.isLsU, Mir.tupC, Mir.wOf, Mir.frzW, Mir.frzC, Mir.dicM, Mir.nddM, Mir.callV, Mir.callM0, Mir.idxM, Mir.fndS, Mir.mkxM, Mir.mkiM, Mir.isxM, Mir.strsM, Mir.fdxM, Mir.nspM, Mir.revLM, Mir.tryA, Mir.hndA, Mir.retF, Mir.retF2, Mir.exFld, Mir.raiF, Mir.noX, h, h1], _, _, rfl⟩
  · exact ⟨.lst [.int 0, .int ((cell * 73 + 1039 * salt) % 2017504241 + 43)], by simp [F__law_sack, m__law_sack, Mir.seqM, Mir.retM, Mir.retNM, Mir.drpM, Mir.asgM, Mir.ifM, Mir.toS, Mir.namG, Mir.tupG, Mir.allG, Mir.lsuG, Mir.varM, Mir.conM, Mir.op2M, Mir.op1M, Mir.tstM, Mir.andM, Mir.orM, Mir.notM, Mir.andT, Mir.orT, Mir.notT, Mir.iteM, Mir.chM, Mir.biM, Mir.isM, Mir.callM, Mir.callC, Mir.callN, Mir.argsM, Mir.O.bind, Mir.rd, Mir.rds, Mir.pures, Mir.tupM, Mir.lstM, Mir.nlsM, Mir.slM, Mir.noP, Mir.someP, Mir.slG, Mir.lcM, Mir.nlcM, Mir.wipeE, Mir.seqI, Mir.rng1I, Mir.rng2I, Mir.zpBI, Mir.seqU, Mir.strI, Mir.forM, Mir.setM, Mir.setC, Mir.parsM, Mir.setUs, Mir.meM, Mir.joinG, Mir.splG, Mir.lenG, Mir.intG, Mir.strG, Mir.listG, Mir.tupleG, Mir.isdic, Mir.isE, Mir.ixG, Mir.addG, Mir.subG, Mir.mulG, Mir.mulOk, Mir.fdivG, Mir.modG, Mir.powG, Mir.negG, Mir.ltG, Mir.leG, Mir.gtG, Mir.geG, Mir.isG, Mir.isNotG, Mir.isNon, Mir.env0, Mir.ins1, Mir.run0, Mir.run1, Mir.runN, Mir.frz, Mir.nxtM, Mir.unM, Mir.appM, Mir.isLst, Mir.kmIx, Mir.kmIn, Mir.scpM, Mir.lowU, Mir.lzpM, Mir.lixM, Mir.lixG, Mir.isLsU, Mir.tupC, Mir.wOf, Mir.frzW, Mir.frzC, Mir.dicM, Mir.nddM, Mir.callV, Mir.callM0, Mir.idxM, Mir.fndS, Mir.mkxM, Mir.mkiM, Mir.isxM, Mir.strsM, Mir.fdxM, Mir.nspM, Mir.revLM, Mir.tryA, Mir.hndA, Mir.retF, Mir.retF2, Mir.exFld, Mir.raiF, Mir.noX, h, h1], _, _, rfl⟩
theorem grip_ok {c : Cell} (hc : Sk c) {many : Int} (hm : 0 < many) (hl : many ≤ 8000 ∨ many.natAbs.log2 < 9000) : ∃ r c', F__law_grip [.int many] c = .ok (.int r) c' ∧ Sk c' ∧ 0 ≤ r ∧ r < many := by
  obtain ⟨a, b, rfl⟩ := hc
  have hl : many.natAbs.log2 < 9000 := by
    rcases hl with h | h
    · exact log_ok (by omega)
    · exact h
  by_cases h : 0 < a
  · refine ⟨a % many, .lst [.int (a / many), .int b], ?_, ⟨_, _, rfl⟩, Int.emod_nonneg _ (by omega), Int.emod_lt_of_pos _ hm⟩
    simp [F__law_grip, m__law_grip, Mir.seqM, Mir.retM, Mir.retNM, Mir.drpM, Mir.asgM, Mir.ifM, Mir.toS, Mir.namG, Mir.tupG, Mir.allG, Mir.lsuG, Mir.varM, Mir.conM, Mir.op2M, Mir.op1M, Mir.tstM, Mir.andM, Mir.orM, Mir.notM, Mir.andT, Mir.orT, Mir.notT, Mir.iteM, Mir.chM, Mir.biM, Mir.isM, Mir.callM, Mir.callC, Mir.callN, Mir.argsM, Mir.O.bind, Mir.rd, Mir.rds, Mir.pures, Mir.tupM, Mir.lstM, Mir.nlsM, Mir.slM, Mir.noP, Mir.someP, Mir.slG, Mir.lcM, Mir.nlcM, Mir.wipeE, Mir.seqI, Mir.rng1I, Mir.rng2I, Mir.zpBI, Mir.seqU, Mir.strI, Mir.forM, Mir.setM, Mir.setC, Mir.parsM, Mir.setUs, Mir.meM, Mir.joinG, Mir.splG, Mir.lenG, Mir.intG, Mir.strG, Mir.listG, Mir.tupleG, Mir.isdic, Mir.isE, Mir.ixG, Mir.addG, Mir.subG, Mir.mulG, Mir.mulOk, Mir.fdivG, Mir.modG, Mir.powG, Mir.negG, Mir.ltG, Mir.leG, Mir.gtG, Mir.geG, Mir.isG, Mir.isNotG, Mir.isNon, Mir.env0, Mir.ins1, Mir.run0, Mir.run1, Mir.runN, Mir.frz, Mir.nxtM, Mir.unM, Mir.appM, Mir.isLst, Mir.kmIx, Mir.kmIn, Mir.scpM, Mir.lowU, Mir.lzpM, Mir.lixM, Mir.lixG, Mir.isLsU, Mir.tupC, Mir.wOf, Mir.frzW, Mir.frzC, Mir.dicM, Mir.nddM, Mir.callV, Mir.callM0, Mir.idxM, Mir.fndS, Mir.mkxM, Mir.mkiM, Mir.isxM, Mir.strsM, Mir.fdxM, Mir.nspM, Mir.revLM, Mir.tryA, Mir.hndA, Mir.retF, Mir.retF2, Mir.exFld, Mir.raiF, Mir.noX, L2.atI, L2.ixN, h, hm, hl]
  · have hb : 0 ≤ (b * 35023 + 9001) % 2147483549 ∧ (b * 35023 + 9001) % 2147483549 < 2147483549 := ⟨Int.emod_nonneg _ (by omega), Int.emod_lt_of_pos _ (by omega)⟩
    generalize hc : (b * 35023 + 9001) % 2147483549 = c at hb
    refine ⟨(c * (c + 79) % 2147483587) / 593 % many, .lst [.int a, .int c], ?_, ⟨_, _, rfl⟩, Int.emod_nonneg _ (by omega), Int.emod_lt_of_pos _ hm⟩
    have h1 : (-18446744073709551616 : Int) < c := by omega
    have h2 : c < 18446744073709551616 := by omega
    have h4 : c.natAbs < 18446744073709551616 := by omega
    have h3 : Nat.log2 593 < 9000 := by decide
    simp [F__law_grip, m__law_grip, Mir.seqM, Mir.retM, Mir.retNM, Mir.drpM, Mir.asgM, Mir.ifM, Mir.toS, Mir.namG, Mir.tupG, Mir.allG, Mir.lsuG, Mir.varM, Mir.conM, Mir.op2M, Mir.op1M, Mir.tstM, Mir.andM, Mir.orM, Mir.notM, Mir.andT, Mir.orT, Mir.notT, Mir.iteM, Mir.chM, Mir.biM, Mir.isM, Mir.callM, Mir.callC, Mir.callN, Mir.argsM, Mir.O.bind, Mir.rd, Mir.rds, Mir.pures, Mir.tupM, Mir.lstM, Mir.nlsM, Mir.slM, Mir.noP, Mir.someP, Mir.slG, Mir.lcM, Mir.nlcM, Mir.wipeE, Mir.seqI, Mir.rng1I, Mir.rng2I, Mir.zpBI, Mir.seqU, Mir.strI, Mir.forM, Mir.setM, Mir.setC, Mir.parsM, Mir.setUs, Mir.meM, Mir.joinG, Mir.splG, Mir.lenG, Mir.intG, Mir.strG, Mir.listG, Mir.tupleG, Mir.isdic, Mir.isE, Mir.ixG, Mir.addG, Mir.subG, Mir.mulG, Mir.mulOk, Mir.fdivG, Mir.modG, Mir.powG, Mir.negG, Mir.ltG, Mir.leG, Mir.gtG, Mir.geG, Mir.isG, Mir.isNotG, Mir.isNon, Mir.env0, Mir.ins1, Mir.run0, Mir.run1, Mir.runN, Mir.frz, Mir.nxtM, Mir.unM, Mir.appM, Mir.isLst, Mir.kmIx, Mir.kmIn, Mir.scpM, Mir.lowU, Mir.lzpM, Mir.lixM, Mir.lixG, Mir.isLsU, Mir.tupC, Mir.wOf, Mir.frzW, Mir.frzC, Mir.dicM, Mir.nddM, Mir.callV, Mir.callM0, Mir.idxM, Mir.fndS, Mir.mkxM, Mir.mkiM, Mir.isxM, Mir.strsM, Mir.fdxM, Mir.nspM, Mir.revLM, Mir.tryA, Mir.hndA, Mir.retF, Mir.retF2, Mir.exFld, Mir.raiF, Mir.noX, L2.atI, L2.ixN, h, hm, hl, hc, h1, h2, h4, h3]
theorem atI_ok {α : Type} {xs : List α} {r : Int} (h0 : 0 ≤ r) (h1 : r < xs.length) : ∃ d, L2.atI xs r = some d ∧ d ∈ xs := by
  have hr : r = ((r.toNat : Nat) : Int) := by omega
  have hl : r.toNat < xs.length := by omega
  rw [hr]
  exact ⟨xs[r.toNat], atI_nat (List.getElem?_eq_getElem hl), List.getElem_mem hl⟩

def natD (n : Nat) : D := .int n
theorem pick_ok {c : Cell} (hc : Sk c) {xs : List D} (hx : xs ≠ []) (hl : xs.length ≤ 1000) : ∃ d c', F__law_pick [.lst xs] c = .ok d c' ∧ Sk c' ∧ d ∈ xs := by
  have hp : 0 < xs.length := List.length_pos_iff.mpr hx
  obtain ⟨r, c', h1, h2, h3, h4⟩ := grip_ok hc (many := (xs.length : Int)) (by omega) (.inl (by omega))
  obtain ⟨d, h5, h6⟩ := atI_ok h3 h4
  refine ⟨d, c', ?_, h2, h6⟩
  simp [F__law_pick, m__law_pick, Mir.seqM, Mir.retM, Mir.retNM, Mir.drpM, Mir.asgM, Mir.ifM, Mir.toS, Mir.namG, Mir.tupG, Mir.allG, Mir.lsuG, Mir.varM, Mir.conM, Mir.op2M, Mir.op1M, Mir.tstM, Mir.andM, Mir.orM, Mir.notM, Mir.andT, Mir.orT, Mir.notT, Mir.iteM, Mir.chM, Mir.biM, Mir.isM, Mir.callM, Mir.callC, Mir.callN, Mir.argsM, Mir.O.bind, Mir.rd, Mir.rds, Mir.pures, Mir.tupM, Mir.lstM, Mir.nlsM, Mir.slM, Mir.noP, Mir.someP, Mir.slG, Mir.lcM, Mir.nlcM, Mir.wipeE, Mir.seqI, Mir.rng1I, Mir.rng2I, Mir.zpBI, Mir.seqU, Mir.strI, Mir.forM, Mir.setM, Mir.setC, Mir.parsM, Mir.setUs, Mir.meM, Mir.joinG, Mir.splG, Mir.lenG, Mir.intG, Mir.strG, Mir.listG, Mir.tupleG, Mir.isdic, Mir.isE, Mir.ixG, Mir.addG, Mir.subG, Mir.mulG, Mir.mulOk, Mir.fdivG, Mir.modG, Mir.powG, Mir.negG, Mir.ltG, Mir.leG, Mir.gtG, Mir.geG, Mir.isG, Mir.isNotG, Mir.isNon, Mir.env0, Mir.ins1, Mir.run0, Mir.run1, Mir.runN, Mir.frz, Mir.nxtM, Mir.unM, Mir.appM, Mir.isLst, Mir.kmIx, Mir.kmIn, Mir.scpM, Mir.lowU, Mir.lzpM, Mir.lixM, Mir.lixG, Mir.isLsU, Mir.tupC, Mir.wOf, Mir.frzW, Mir.frzC, Mir.dicM, Mir.nddM, Mir.callV, Mir.callM0, Mir.idxM, Mir.fndS, Mir.mkxM, Mir.mkiM, Mir.isxM, Mir.strsM, Mir.fdxM, Mir.nspM, Mir.revLM, Mir.tryA, Mir.hndA, Mir.retF, Mir.retF2, Mir.exFld, Mir.raiF, Mir.noX, h1, h5]
theorem gripN_ok {c : Cell} (hc : Sk c) {many : Nat} (hm : 0 < many) (hl : many ≤ 8000) : ∃ (r : Nat) (c' : Cell), F__law_grip [.int many] c = .ok (natD r) c' ∧ Sk c' ∧ r < many := by
  obtain ⟨r, c', h1, h2, h3, h4⟩ := grip_ok hc (many := (many : Int)) (by omega) (.inl (by omega))
  refine ⟨r.toNat, c', ?_, h2, by omega⟩
  rw [h1, natD, show ((r.toNat : Nat) : Int) = r by omega]

/-! ### the script's first numbers; names that hold data -/
def dd (x : Option D) : Option U := x.map .d
theorem dd_some (d : D) : dd (some d) = some (.d d) := rfl
theorem low_dd {n : Nat} {x : Option D} : lowU n (dd x) = true := by cases x <;> rfl
def IsScr (ns : List Int) (d : D) : Prop := d = .scr ns ∨ d = .lst (ns.map D.int)
theorem first_it {ns : List Int} {d : D} (h : IsScr ns d) (hl : ns.length ≤ 63) (k : Nat) {ρ : Mir.Env} {S : Sto} (h0 : ρ[0]? = some (some (.d d))) :
    (seqI (slM (op2M addG (lstM [(conM (.int 0))]) (varM 0)) noP (someP (conM (.int (k : Int)))))) ρ S = .ok (((0 :: ns).take k).map D.int) S := by
  have hadd : addG (.lst [.int 0]) d = some (.lst ((0 :: ns).map D.int)) := by
    have hb : 1 + ns.length ≤ big := by unfold big; omega
    rcases h with h | h <;> subst h <;> simp [addG, hb]
  have hcut : slG (.lst ((0 :: ns).map D.int)) none (some (k : Int)) = some (.lst (((0 :: ns).take k).map D.int)) := by
    simp only [slG, cutL, HT.sIx, List.drop_zero, Nat.sub_zero]
    rw [if_neg (by omega)]
    have h10 : ((k : Int)).toNat = k := by omega
    rw [h10, List.map_take]
    congr 2
    rcases Nat.le_total k ((0 :: ns).map D.int).length with h | h
    · rw [Nat.min_eq_left h]
    · rw [Nat.min_eq_right h, List.take_of_length_le (Nat.le_refl _), List.take_of_length_le h]
  simp [Mir.seqI, Mir.slM, Mir.op2M, Mir.lstM, Mir.argsM, Mir.conM, Mir.varM, Mir.noP, Mir.someP, O.bind, h0, Mir.pures, Mir.rd, hadd, -List.map_cons]
  rw [hcut]
  simp only [List.map_take]

/-! ### the law -/
def errsL (t : Str) (n : Int) : List D := [.obj "InvalidKinds" [.str t], .obj "InvalidStretch" [.str t], .obj "InvalidRoad" [.str t], .obj "InvalidNumber" [.str t], .obj "InvalidPlace" [.str t], .obj "InvalidPlayer" [.str t], .obj "InvalidSign" [.str t], .obj "InvalidPlan" [.str t],
  .obj "InvalidWay" [.str t], .obj "NothingToUndo" [.str t], .obj "TooMany" [.str "limit", .int n], .obj "InvalidText" [.str "line", .int n], .obj "Failed" [.str "place", .int n]]
def textsL : List D := [.str "", .str "a road", .str "a stone on it"]
def envL (sc cell : D) (t : Str) (n : Int) (x6 x7 : Option U) : Mir.Env := [some (.d sc), some (.d cell), some (.c 0), some (.d (.str t)), some (.d (.int n)), some (.d (.lst (errsL t n))), x6, x7]
def rng13 : List D := (List.range 13).map fun i => D.int (0 + (i : Nat))
set_option maxRecDepth 1000000 in
theorem loop1 (sc cell : D) (n : Int) (x6 x7 : Option U) (S : Sto) : forL (namG 6) B_law_1 rng13 (envL sc cell "" n x6 x7) S = .nx (envL sc cell "" n (some (.d (.int 12))) x7) S := by kernel_rfl
set_option maxRecDepth 1000000 in
theorem loop2 (sc cell : D) (n : Int) (x6 x7 : Option U) (S : Sto) : forL (namG 6) B_law_1 rng13 (envL sc cell "a road" n x6 x7) S = .nx (envL sc cell "a road" n (some (.d (.int 12))) x7) S := by kernel_rfl
set_option maxRecDepth 1000000 in
theorem loop3 (sc cell : D) (n : Int) (x6 x7 : Option U) (S : Sto) : forL (namG 6) B_law_1 rng13 (envL sc cell "a stone on it" n x6 x7) S = .nx (envL sc cell "a stone on it" n (some (.d (.int 12))) x7) S := by kernel_rfl

theorem texts_chk (sc cell : D) {d : D} (hd : d ∈ textsL) : ∃ t : Str, d = .str t ∧ ∀ (n : Int) (x6 x7 : Option U) (S : Sto), forL (namG 6) B_law_1 rng13 (envL sc cell t n x6 x7) S = .nx (envL sc cell t n (some (.d (.int 12))) x7) S := by
  simp only [textsL, List.mem_cons, List.not_mem_nil, or_false] at hd
  rcases hd with rfl | rfl | rfl
  · exact ⟨_, rfl, loop1 sc cell⟩
  · exact ⟨_, rfl, loop2 sc cell⟩
  · exact ⟨_, rfl, loop3 sc cell⟩
def fls : List D := List.replicate 13 (.bl false)
set_option maxRecDepth 1000000 in
theorem road_which (t : Str) : F__law_which [.obj "RoadError" [.str t]] = .ok (.lst fls) := by kernel_rfl
set_option maxRecDepth 1000000 in
theorem ne_fls : neG (.lst fls) (.lst fls) = some (.bl false) := by kernel_rfl
def envB (sc : D) (x1 x3 x4 x5 x6 : Option D) (x7 : Option U) : Mir.Env := [some (.d sc), dd x1, none, dd x3, dd x4, dd x5, dd x6, x7]
theorem three (n : Int) : neG (.lst [.int n, .int n, .int n]) (.lst [.int n, .int n, .int n]) = some (.bl false) := neG_refl (n := 1) (by rfl)
theorem cell_ok (sc : D) (i : Int) (x3 x4 x5 x6 : Option D) (x7 : Option U) : ∃ y3 y4 y5 y6, B_law_2 (envB sc (some (.int i)) x3 x4 x5 x6 none) [] = .nx (envB sc (some (.int i)) y3 y4 y5 y6 none) [] := by
  obtain ⟨c, s1, s2⟩ := sack_ok i 117
  obtain ⟨d, c1, p1, p2, p3⟩ := pick_ok s2 (xs := textsL) (by simp [textsL]) (by decide)
  obtain ⟨n, c2, n1, n2, n3⟩ := gripN_ok p2 (many := 500) (by decide) (by decide)
  have n1' : F__law_grip [.int 500] c1 = .ok (.int (n : Nat)) c2 := n1
  obtain ⟨t, rfl, hl⟩ := texts_chk sc (.int i) p3
  refine ⟨some (.str t), some (.int (n : Nat)), some (.lst (errsL t n)), some (.int 12), ?_⟩
  have h1 : (asgM (callN F__law_sack [(varM 1), (conM (.int 117))]) (namG 2)) (envB sc (some (.int i)) x3 x4 x5 x6 none) [] = .nx [some (.d sc), some (.d (.int i)), some (.c 0), dd x3, dd x4, dd x5, dd x6, none] [c] := by
    simp [envB, Mir.seqM, Mir.retM, Mir.retNM, Mir.drpM, Mir.asgM, Mir.ifM, Mir.toS, Mir.namG, Mir.tupG, Mir.allG, Mir.lsuG, Mir.varM, Mir.conM, Mir.op2M, Mir.op1M, Mir.tstM, Mir.andM, Mir.orM, Mir.notM, Mir.andT, Mir.orT, Mir.notT, Mir.iteM, Mir.chM, Mir.biM, Mir.isM, Mir.callM, Mir.callC, Mir.callN, Mir.argsM, Mir.O.bind, Mir.rd, Mir.rds, Mir.pures, Mir.tupM, Mir.lstM, Mir.nlsM, Mir.slM, Mir.noP, Mir.someP, Mir.slG, Mir.lcM, Mir.nlcM, Mir.wipeE, Mir.seqI, Mir.rng1I, Mir.rng2I, Mir.zpBI, Mir.seqU, Mir.strI, Mir.forM, Mir.setM, Mir.setC, Mir.parsM, Mir.setUs, Mir.meM, Mir.joinG, Mir.splG, Mir.lenG, Mir.intG, Mir.strG, Mir.listG, Mir.tupleG, Mir.isdic, Mir.isE, Mir.ixG, Mir.addG, Mir.subG, Mir.mulG, Mir.mulOk, Mir.fdivG, Mir.modG, Mir.powG, Mir.negG, Mir.ltG, Mir.leG, Mir.gtG, Mir.geG, Mir.isG, Mir.isNotG, Mir.isNon, Mir.env0, Mir.ins1, Mir.run0, Mir.run1, Mir.runN, Mir.frz, Mir.nxtM, Mir.unM, Mir.appM, Mir.isLst, Mir.kmIx, Mir.kmIn, Mir.scpM, Mir.lowU, Mir.lzpM, Mir.lixM, Mir.lixG, Mir.isLsU, Mir.tupC, Mir.wOf, Mir.frzW, Mir.frzC, Mir.dicM, Mir.nddM, Mir.callV, Mir.callM0, Mir.idxM, Mir.fndS, Mir.mkxM, Mir.mkiM, Mir.isxM, Mir.strsM, Mir.fdxM, Mir.nspM, Mir.revLM, Mir.tryA, Mir.hndA, Mir.retF, Mir.retF2, Mir.exFld, Mir.raiF, Mir.noX, dd_some, s1]
  unfold textsL at p1
  have h2 : (parsM [3, 4] [(callC 0 F__law_pick [(varM 2), (lstM [(conM (.str "")), (conM (.str "a road")), (conM (.str "a stone on it"))])]), (callC 0 F__law_grip [(varM 2), (conM (.int 500))])]) [some (.d sc), some (.d (.int i)), some (.c 0), dd x3, dd x4, dd x5, dd x6, none] [c] =
      .nx [some (.d sc), some (.d (.int i)), some (.c 0), some (.d (.str t)), some (.d (.int (n : Nat))), dd x5, dd x6, none] [c2] := by
    simp [Mir.seqM, Mir.retM, Mir.retNM, Mir.drpM, Mir.asgM, Mir.ifM, Mir.toS, Mir.namG, Mir.tupG, Mir.allG, Mir.lsuG, Mir.varM, Mir.conM, Mir.op2M, Mir.op1M, Mir.tstM, Mir.andM, Mir.orM, Mir.notM, Mir.andT, Mir.orT, Mir.notT, Mir.iteM, Mir.chM, Mir.biM, Mir.isM, Mir.callM, Mir.callC, Mir.callN, Mir.argsM, Mir.O.bind, Mir.rd, Mir.rds, Mir.pures, Mir.tupM, Mir.lstM, Mir.nlsM, Mir.slM, Mir.noP, Mir.someP, Mir.slG, Mir.lcM, Mir.nlcM, Mir.wipeE, Mir.seqI, Mir.rng1I, Mir.rng2I, Mir.zpBI, Mir.seqU, Mir.strI, Mir.forM, Mir.setM, Mir.setC, Mir.parsM, Mir.setUs, Mir.meM, Mir.joinG, Mir.splG, Mir.lenG, Mir.intG, Mir.strG, Mir.listG, Mir.tupleG, Mir.isdic, Mir.isE, Mir.ixG, Mir.addG, Mir.subG, Mir.mulG, Mir.mulOk, Mir.fdivG, Mir.modG, Mir.powG, Mir.negG, Mir.ltG, Mir.leG, Mir.gtG, Mir.geG, Mir.isG, Mir.isNotG, Mir.isNon, Mir.env0, Mir.ins1, Mir.run0, Mir.run1, Mir.runN, Mir.frz, Mir.nxtM, Mir.unM, Mir.appM, Mir.isLst, Mir.kmIx, Mir.kmIn, Mir.scpM, Mir.lowU, Mir.lzpM, Mir.lixM, Mir.lixG, Mir.isLsU, Mir.tupC, Mir.wOf, Mir.frzW, Mir.frzC, Mir.dicM, Mir.nddM, Mir.callV, Mir.callM0, Mir.idxM, Mir.fndS, Mir.mkxM, Mir.mkiM, Mir.isxM, Mir.strsM, Mir.fdxM, Mir.nspM, Mir.revLM, Mir.tryA, Mir.hndA, Mir.retF, Mir.retF2, Mir.exFld, Mir.raiF, Mir.noX, p1, n1', Mir.setUs]
  have hb : (1000 : Nat) ≤ big := by decide
  have b1 : (8 : Nat) ≤ big := Nat.le_trans (by decide) hb
  have b2 : (10 : Nat) ≤ big := Nat.le_trans (by decide) hb
  have b3 : (13 : Nat) ≤ big := Nat.le_trans (by decide) hb
  unfold B_law_2
  simp only [Mir.scpM, Mir.seqM, h1, h2]
  have h3 : (asgM (lstM [(mkxM "InvalidKinds" (varM 3)), (mkxM "InvalidStretch" (varM 3)), (mkxM "InvalidRoad" (varM 3)), (mkxM "InvalidNumber" (varM 3)), (mkxM "InvalidPlace" (varM 3))]) (namG 5)) [some (.d sc), some (.d (.int i)), some (.c 0), some (.d (.str t)), some (.d (.int (n : Nat))), dd x5, dd x6, none] [c2] =
      .nx [some (.d sc), some (.d (.int i)), some (.c 0), some (.d (.str t)), some (.d (.int (n : Nat))), some (.d (.lst ((errsL t n).take 5))), dd x6, none] [c2] := by
    simp [Mir.seqM, Mir.retM, Mir.retNM, Mir.drpM, Mir.asgM, Mir.ifM, Mir.toS, Mir.namG, Mir.tupG, Mir.allG, Mir.lsuG, Mir.varM, Mir.conM, Mir.op2M, Mir.op1M, Mir.tstM, Mir.andM, Mir.orM, Mir.notM, Mir.andT, Mir.orT, Mir.notT, Mir.iteM, Mir.chM, Mir.biM, Mir.isM, Mir.callM, Mir.callC, Mir.callN, Mir.argsM, Mir.O.bind, Mir.rd, Mir.rds, Mir.pures, Mir.tupM, Mir.lstM, Mir.nlsM, Mir.slM, Mir.noP, Mir.someP, Mir.slG, Mir.lcM, Mir.nlcM, Mir.wipeE, Mir.seqI, Mir.rng1I, Mir.rng2I, Mir.zpBI, Mir.seqU, Mir.strI, Mir.forM, Mir.setM, Mir.setC, Mir.parsM, Mir.setUs, Mir.meM, Mir.joinG, Mir.splG, Mir.lenG, Mir.intG, Mir.strG, Mir.listG, Mir.tupleG, Mir.isdic, Mir.isE, Mir.ixG, Mir.addG, Mir.subG, Mir.mulG, Mir.mulOk, Mir.fdivG, Mir.modG, Mir.powG, Mir.negG, Mir.ltG, Mir.leG, Mir.gtG, Mir.geG, Mir.isG, Mir.isNotG, Mir.isNon, Mir.env0, Mir.ins1, Mir.run0, Mir.run1, Mir.runN, Mir.frz, Mir.nxtM, Mir.unM, Mir.appM, Mir.isLst, Mir.kmIx, Mir.kmIn, Mir.scpM, Mir.lowU, Mir.lzpM, Mir.lixM, Mir.lixG, Mir.isLsU, Mir.tupC, Mir.wOf, Mir.frzW, Mir.frzC, Mir.dicM, Mir.nddM, Mir.callV, Mir.callM0, Mir.idxM, Mir.fndS, Mir.mkxM, Mir.mkiM, Mir.isxM, Mir.strsM, Mir.fdxM, Mir.nspM, Mir.revLM, Mir.tryA, Mir.hndA, Mir.retF, Mir.retF2, Mir.exFld, Mir.raiF, Mir.noX, errsL]
  have h4 : (asgM (op2M addG (varM 5) (lstM [(mkxM "InvalidPlayer" (varM 3)), (mkxM "InvalidSign" (varM 3)), (mkxM "InvalidPlan" (varM 3))])) (namG 5)) [some (.d sc), some (.d (.int i)), some (.c 0), some (.d (.str t)), some (.d (.int (n : Nat))), some (.d (.lst ((errsL t n).take 5))), dd x6, none] [c2] =
      .nx [some (.d sc), some (.d (.int i)), some (.c 0), some (.d (.str t)), some (.d (.int (n : Nat))), some (.d (.lst ((errsL t n).take 8))), dd x6, none] [c2] := by
    simp [Mir.seqM, Mir.retM, Mir.retNM, Mir.drpM, Mir.asgM, Mir.ifM, Mir.toS, Mir.namG, Mir.tupG, Mir.allG, Mir.lsuG, Mir.varM, Mir.conM, Mir.op2M, Mir.op1M, Mir.tstM, Mir.andM, Mir.orM, Mir.notM, Mir.andT, Mir.orT, Mir.notT, Mir.iteM, Mir.chM, Mir.biM, Mir.isM, Mir.callM, Mir.callC, Mir.callN, Mir.argsM, Mir.O.bind, Mir.rd, Mir.rds, Mir.pures, Mir.tupM, Mir.lstM, Mir.nlsM, Mir.slM, Mir.noP, Mir.someP, Mir.slG, Mir.lcM, Mir.nlcM, Mir.wipeE, Mir.seqI, Mir.rng1I, Mir.rng2I, Mir.zpBI, Mir.seqU, Mir.strI, Mir.forM, Mir.setM, Mir.setC, Mir.parsM, Mir.setUs, Mir.meM, Mir.joinG, Mir.splG, Mir.lenG, Mir.intG, Mir.strG, Mir.listG, Mir.tupleG, Mir.isdic, Mir.isE, Mir.ixG, Mir.addG, Mir.subG, Mir.mulG, Mir.mulOk, Mir.fdivG, Mir.modG, Mir.powG, Mir.negG, Mir.ltG, Mir.leG, Mir.gtG, Mir.geG, Mir.isG, Mir.isNotG, Mir.isNon, Mir.env0, Mir.ins1, Mir.run0, Mir.run1, Mir.runN, Mir.frz, Mir.nxtM, Mir.unM, Mir.appM, Mir.isLst, Mir.kmIx, Mir.kmIn, Mir.scpM, Mir.lowU, Mir.lzpM, Mir.lixM, Mir.lixG, Mir.isLsU, Mir.tupC, Mir.wOf, Mir.frzW, Mir.frzC, Mir.dicM, Mir.nddM, Mir.callV, Mir.callM0, Mir.idxM, Mir.fndS, Mir.mkxM, Mir.mkiM, Mir.isxM, Mir.strsM, Mir.fdxM, Mir.nspM, Mir.revLM, Mir.tryA, Mir.hndA, Mir.retF, Mir.retF2, Mir.exFld, Mir.raiF, Mir.noX, errsL, b1]
  have h5 : (asgM (op2M addG (varM 5) (lstM [(mkxM "InvalidWay" (varM 3)), (mkxM "NothingToUndo" (varM 3))])) (namG 5)) [some (.d sc), some (.d (.int i)), some (.c 0), some (.d (.str t)), some (.d (.int (n : Nat))), some (.d (.lst ((errsL t n).take 8))), dd x6, none] [c2] =
      .nx [some (.d sc), some (.d (.int i)), some (.c 0), some (.d (.str t)), some (.d (.int (n : Nat))), some (.d (.lst ((errsL t n).take 10))), dd x6, none] [c2] := by
    simp [Mir.seqM, Mir.retM, Mir.retNM, Mir.drpM, Mir.asgM, Mir.ifM, Mir.toS, Mir.namG, Mir.tupG, Mir.allG, Mir.lsuG, Mir.varM, Mir.conM, Mir.op2M, Mir.op1M, Mir.tstM, Mir.andM, Mir.orM, Mir.notM, Mir.andT, Mir.orT, Mir.notT, Mir.iteM, Mir.chM, Mir.biM, Mir.isM, Mir.callM, Mir.callC, Mir.callN, Mir.argsM, Mir.O.bind, Mir.rd, Mir.rds, Mir.pures, Mir.tupM, Mir.lstM, Mir.nlsM, Mir.slM, Mir.noP, Mir.someP, Mir.slG, Mir.lcM, Mir.nlcM, Mir.wipeE, Mir.seqI, Mir.rng1I, Mir.rng2I, Mir.zpBI, Mir.seqU, Mir.strI, Mir.forM, Mir.setM, Mir.setC, Mir.parsM, Mir.setUs, Mir.meM, Mir.joinG, Mir.splG, Mir.lenG, Mir.intG, Mir.strG, Mir.listG, Mir.tupleG, Mir.isdic, Mir.isE, Mir.ixG, Mir.addG, Mir.subG, Mir.mulG, Mir.mulOk, Mir.fdivG, Mir.modG, Mir.powG, Mir.negG, Mir.ltG, Mir.leG, Mir.gtG, Mir.geG, Mir.isG, Mir.isNotG, Mir.isNon, Mir.env0, Mir.ins1, Mir.run0, Mir.run1, Mir.runN, Mir.frz, Mir.nxtM, Mir.unM, Mir.appM, Mir.isLst, Mir.kmIx, Mir.kmIn, Mir.scpM, Mir.lowU, Mir.lzpM, Mir.lixM, Mir.lixG, Mir.isLsU, Mir.tupC, Mir.wOf, Mir.frzW, Mir.frzC, Mir.dicM, Mir.nddM, Mir.callV, Mir.callM0, Mir.idxM, Mir.fndS, Mir.mkxM, Mir.mkiM, Mir.isxM, Mir.strsM, Mir.fdxM, Mir.nspM, Mir.revLM, Mir.tryA, Mir.hndA, Mir.retF, Mir.retF2, Mir.exFld, Mir.raiF, Mir.noX, errsL, b2]
  have h6 : (asgM (op2M addG (varM 5) (lstM [(mkiM "TooMany" "limit" (varM 4)), (mkiM "InvalidText" "line" (varM 4)), (mkiM "Failed" "place" (varM 4))])) (namG 5)) [some (.d sc), some (.d (.int i)), some (.c 0), some (.d (.str t)), some (.d (.int (n : Nat))), some (.d (.lst ((errsL t n).take 10))), dd x6, none] [c2] =
      .nx (envL sc (.int i) t n (dd x6) none) [c2] := by
    simp [Mir.seqM, Mir.retM, Mir.retNM, Mir.drpM, Mir.asgM, Mir.ifM, Mir.toS, Mir.namG, Mir.tupG, Mir.allG, Mir.lsuG, Mir.varM, Mir.conM, Mir.op2M, Mir.op1M, Mir.tstM, Mir.andM, Mir.orM, Mir.notM, Mir.andT, Mir.orT, Mir.notT, Mir.iteM, Mir.chM, Mir.biM, Mir.isM, Mir.callM, Mir.callC, Mir.callN, Mir.argsM, Mir.O.bind, Mir.rd, Mir.rds, Mir.pures, Mir.tupM, Mir.lstM, Mir.nlsM, Mir.slM, Mir.noP, Mir.someP, Mir.slG, Mir.lcM, Mir.nlcM, Mir.wipeE, Mir.seqI, Mir.rng1I, Mir.rng2I, Mir.zpBI, Mir.seqU, Mir.strI, Mir.forM, Mir.setM, Mir.setC, Mir.parsM, Mir.setUs, Mir.meM, Mir.joinG, Mir.splG, Mir.lenG, Mir.intG, Mir.strG, Mir.listG, Mir.tupleG, Mir.isdic, Mir.isE, Mir.ixG, Mir.addG, Mir.subG, Mir.mulG, Mir.mulOk, Mir.fdivG, Mir.modG, Mir.powG, Mir.negG, Mir.ltG, Mir.leG, Mir.gtG, Mir.geG, Mir.isG, Mir.isNotG, Mir.isNon, Mir.env0, Mir.ins1, Mir.run0, Mir.run1, Mir.runN, Mir.frz, Mir.nxtM, Mir.unM, Mir.appM, Mir.isLst, Mir.kmIx, Mir.kmIn, Mir.scpM, Mir.lowU, Mir.lzpM, Mir.lixM, Mir.lixG, Mir.isLsU, Mir.tupC, Mir.wOf, Mir.frzW, Mir.frzC, Mir.dicM, Mir.nddM, Mir.callV, Mir.callM0, Mir.idxM, Mir.fndS, Mir.mkxM, Mir.mkiM, Mir.isxM, Mir.strsM, Mir.fdxM, Mir.nspM, Mir.revLM, Mir.tryA, Mir.hndA, Mir.retF, Mir.retF2, Mir.exFld, Mir.raiF, Mir.noX, errsL, b3, envL]
  simp only [h3, h4, h5, h6]
  have hit : (rng1I (conM (.int 13))) (envL sc (.int i) t n (dd x6) none) [c2] = .ok rng13 [c2] := by
    simp [Mir.seqM, Mir.retM, Mir.retNM, Mir.drpM, Mir.asgM, Mir.ifM, Mir.toS, Mir.namG, Mir.tupG, Mir.allG, Mir.lsuG, Mir.varM, Mir.conM, Mir.op2M, Mir.op1M, Mir.tstM, Mir.andM, Mir.orM, Mir.notM, Mir.andT, Mir.orT, Mir.notT, Mir.iteM, Mir.chM, Mir.biM, Mir.isM, Mir.callM, Mir.callC, Mir.callN, Mir.argsM, Mir.O.bind, Mir.rd, Mir.rds, Mir.pures, Mir.tupM, Mir.lstM, Mir.nlsM, Mir.slM, Mir.noP, Mir.someP, Mir.slG, Mir.lcM, Mir.nlcM, Mir.wipeE, Mir.seqI, Mir.rng1I, Mir.rng2I, Mir.zpBI, Mir.seqU, Mir.strI, Mir.forM, Mir.setM, Mir.setC, Mir.parsM, Mir.setUs, Mir.meM, Mir.joinG, Mir.splG, Mir.lenG, Mir.intG, Mir.strG, Mir.listG, Mir.tupleG, Mir.isdic, Mir.isE, Mir.ixG, Mir.addG, Mir.subG, Mir.mulG, Mir.mulOk, Mir.fdivG, Mir.modG, Mir.powG, Mir.negG, Mir.ltG, Mir.leG, Mir.gtG, Mir.geG, Mir.isG, Mir.isNotG, Mir.isNon, Mir.env0, Mir.ins1, Mir.run0, Mir.run1, Mir.runN, Mir.frz, Mir.nxtM, Mir.unM, Mir.appM, Mir.isLst, Mir.kmIx, Mir.kmIn, Mir.scpM, Mir.lowU, Mir.lzpM, Mir.lixM, Mir.lixG, Mir.isLsU, Mir.tupC, Mir.wOf, Mir.frzW, Mir.frzC, Mir.dicM, Mir.nddM, Mir.callV, Mir.callM0, Mir.idxM, Mir.fndS, Mir.mkxM, Mir.mkiM, Mir.isxM, Mir.strsM, Mir.fdxM, Mir.nspM, Mir.revLM, Mir.tryA, Mir.hndA, Mir.retF, Mir.retF2, Mir.exFld, Mir.raiF, Mir.noX, rng13]
  have hfor := forM_nx hit (hl n (dd x6) none [c2])
  simp only [hfor]
  have mul3 : mulG (.lst [.int (n : Nat)]) (.int 3) = some (.lst [.int (n : Nat), .int (n : Nat), .int (n : Nat)]) := rfl
  have mul13 : mulG (.lst [.bl false]) (.int 13) = some (.lst fls) := rfl
  have i10 : ixG (.lst (errsL t n)) (.int 10) = some (.obj "TooMany" [.str "limit", .int (n : Nat)]) := rfl
  have i11 : ixG (.lst (errsL t n)) (.int 11) = some (.obj "InvalidText" [.str "line", .int (n : Nat)]) := rfl
  have i12 : ixG (.lst (errsL t n)) (.int 12) = some (.obj "Failed" [.str "place", .int (n : Nat)]) := rfl
  have t3 := three (n : Int)
  have h7 : (ifM (tstM (op2M neG (lstM [(fdxM fc_limit "limit" (op2M ixG (varM 5) (conM (.int 10)))), (fdxM fc_line "line" (op2M ixG (varM 5) (conM (.int 11)))), (fdxM fc_place "place" (op2M ixG (varM 5) (conM (.int 12))))]) (op2M mulG (lstM [(varM 4)]) (conM (.int 3))))) (retM (conM (.bl false))) nxtM) (envL sc (.int i) t n (some (.d (.int 12))) none) [c2] = .nx (envL sc (.int i) t n (some (.d (.int 12))) none) [c2] := by
    simp [Mir.seqM, Mir.retM, Mir.retNM, Mir.drpM, Mir.asgM, Mir.ifM, Mir.toS, Mir.namG, Mir.tupG, Mir.allG, Mir.lsuG, Mir.varM, Mir.conM, Mir.op2M, Mir.op1M, Mir.tstM, Mir.andM, Mir.orM, Mir.notM, Mir.andT, Mir.orT, Mir.notT, Mir.iteM, Mir.chM, Mir.biM, Mir.isM, Mir.callM, Mir.callC, Mir.callN, Mir.argsM, Mir.O.bind, Mir.rd, Mir.rds, Mir.pures, Mir.tupM, Mir.lstM, Mir.nlsM, Mir.slM, Mir.noP, Mir.someP, Mir.slG, Mir.lcM, Mir.nlcM, Mir.wipeE, Mir.seqI, Mir.rng1I, Mir.rng2I, Mir.zpBI, Mir.seqU, Mir.strI, Mir.forM, Mir.setM, Mir.setC, Mir.parsM, Mir.setUs, Mir.meM, Mir.joinG, Mir.splG, Mir.lenG, Mir.intG, Mir.strG, Mir.listG, Mir.tupleG, Mir.isdic, Mir.isE, Mir.addG, Mir.subG, Mir.mulOk, Mir.fdivG, Mir.modG, Mir.powG, Mir.negG, Mir.ltG, Mir.leG, Mir.gtG, Mir.geG, Mir.isG, Mir.isNotG, Mir.isNon, Mir.env0, Mir.ins1, Mir.run0, Mir.run1, Mir.runN, Mir.frz, Mir.nxtM, Mir.unM, Mir.appM, Mir.isLst, Mir.kmIx, Mir.kmIn, Mir.scpM, Mir.lowU, Mir.lzpM, Mir.lixM, Mir.lixG, Mir.isLsU, Mir.tupC, Mir.wOf, Mir.frzW, Mir.frzC, Mir.dicM, Mir.nddM, Mir.callV, Mir.callM0, Mir.idxM, Mir.fndS, Mir.mkxM, Mir.mkiM, Mir.isxM, Mir.strsM, Mir.fdxM, Mir.nspM, Mir.revLM, Mir.tryA, Mir.hndA, Mir.retF, Mir.retF2, Mir.exFld, Mir.raiF, Mir.noX, envL, i10, i11, i12, mul3, t3, fc_limit, fc_line, fc_place]
  have rw1 := road_which t
  have nf := ne_fls
  have h8 : (ifM (tstM (op2M neG (callM F__law_which [(mkxM "RoadError" (varM 3))]) (op2M mulG (lstM [(conM (.bl false))]) (conM (.int 13))))) (retM (conM (.bl false))) nxtM) (envL sc (.int i) t n (some (.d (.int 12))) none) [c2] = .nx (envL sc (.int i) t n (some (.d (.int 12))) none) [c2] := by
    simp [Mir.seqM, Mir.retM, Mir.retNM, Mir.drpM, Mir.asgM, Mir.ifM, Mir.toS, Mir.namG, Mir.tupG, Mir.allG, Mir.lsuG, Mir.varM, Mir.conM, Mir.op2M, Mir.op1M, Mir.tstM, Mir.andM, Mir.orM, Mir.notM, Mir.andT, Mir.orT, Mir.notT, Mir.iteM, Mir.chM, Mir.biM, Mir.isM, Mir.callM, Mir.callC, Mir.callN, Mir.argsM, Mir.O.bind, Mir.rd, Mir.rds, Mir.pures, Mir.tupM, Mir.lstM, Mir.nlsM, Mir.slM, Mir.noP, Mir.someP, Mir.slG, Mir.lcM, Mir.nlcM, Mir.wipeE, Mir.seqI, Mir.rng1I, Mir.rng2I, Mir.zpBI, Mir.seqU, Mir.strI, Mir.forM, Mir.setM, Mir.setC, Mir.parsM, Mir.setUs, Mir.meM, Mir.joinG, Mir.splG, Mir.lenG, Mir.intG, Mir.strG, Mir.listG, Mir.tupleG, Mir.isdic, Mir.isE, Mir.ixG, Mir.addG, Mir.subG, Mir.mulOk, Mir.fdivG, Mir.modG, Mir.powG, Mir.negG, Mir.ltG, Mir.leG, Mir.gtG, Mir.geG, Mir.isG, Mir.isNotG, Mir.isNon, Mir.env0, Mir.ins1, Mir.run0, Mir.run1, Mir.runN, Mir.frz, Mir.nxtM, Mir.unM, Mir.appM, Mir.isLst, Mir.kmIx, Mir.kmIn, Mir.scpM, Mir.lowU, Mir.lzpM, Mir.lixM, Mir.lixG, Mir.isLsU, Mir.tupC, Mir.wOf, Mir.frzW, Mir.frzC, Mir.dicM, Mir.nddM, Mir.callV, Mir.callM0, Mir.idxM, Mir.fndS, Mir.mkxM, Mir.mkiM, Mir.isxM, Mir.strsM, Mir.fdxM, Mir.nspM, Mir.revLM, Mir.tryA, Mir.hndA, Mir.retF, Mir.retF2, Mir.exFld, Mir.raiF, Mir.noX, envL, rw1, mul13, nf]
  simp only [h7, h8]
  have l1 : ∀ (n : Nat) (d : D), Mir.lowU n (some (.d d)) = true := fun _ _ => rfl
  have l2 : ∀ (n : Nat), Mir.lowU n none = true := fun _ => rfl
  simp [Mir.wipeE, low_dd, l1, l2, envL, envB, dd_some]
theorem cells1 (sc : D) : ∀ (is : List Int) (x1 x3 x4 x5 x6 : Option D), ∃ y1 y3 y4 y5 y6, forL (namG 1) B_law_2 (is.map .int) (envB sc x1 x3 x4 x5 x6 none) [] = .nx (envB sc y1 y3 y4 y5 y6 none) []
  | [], x1, x3, x4, x5, x6 => ⟨x1, x3, x4, x5, x6, rfl⟩
  | i :: is, x1, x3, x4, x5, x6 => by
    obtain ⟨y3, y4, y5, y6, h1⟩ := cell_ok sc i x3 x4 x5 x6 none
    obtain ⟨z1, z3, z4, z5, z6, h2⟩ := cells1 sc is (some (.int i)) y3 y4 y5 y6
    refine ⟨z1, z3, z4, z5, z6, ?_⟩
    have hn : namG 1 (.d (.int i)) (envB sc x1 x3 x4 x5 x6 none) [] = some (envB sc (some (.int i)) x3 x4 x5 x6 none, []) := rfl
    rw [List.map_cons, forL, hn]
    simp only [h1]
    exact h2
theorem law_true2 (ns : List Int) (hns : ns.length ≤ 63) : F_law [.scr ns] = .ok (.bl true) ∧ F_law [.lst (ns.map D.int)] = .ok (.bl true) := by
  have main : ∀ d, IsScr ns d → F_law [d] = .ok (.bl true) := fun d hd => by
    obtain ⟨z1, z3, z4, z5, z6, h⟩ := cells1 d ((0 :: ns).take 6) none none none none none
    have hit := first_it hd hns 6 (ρ := envB d none none none none none none) (S := []) rfl
    have hE : env0 8 ([d].map U.d) = envB d none none none none none none := rfl
    have hfor : Mir.forM (seqI (slM (op2M addG (lstM [(conM (.int 0))]) (varM 0)) noP (someP (conM (.int 6))))) (namG 1) B_law_2 (envB d none none none none none none) [] = .nx (envB d z1 z3 z4 z5 z6 none) [] := forM_nx hit h
    show run0 8 m_law [d] = _
    unfold run0 m_law
    rw [hE]
    simp only [Mir.seqM]
    rw [hfor]
    rfl
  exact ⟨main _ (.inl rfl), main _ (.inr rfl)⟩
theorem law_true (ns : List Int) (hns : ns.length ≤ 63) : F_law [.scr ns] = .ok (.bl true) := (law_true2 ns hns).1

/-! ### what the top has left; the law -/
theorem all_mk {l : PySem.W.OpenLaw} {w : World} {K : PySem.W.Frag} {h : Heap} {mg : Str → Option Value} {fa : Addr} (X : K.In h) (G : h.Ns mainGlobals mg) (hfa : mg "law" = some (.ref fa))
    {f0 : Addr} {od0 an0 : Option Addr} {sl0 : Array (Option Value)} {oc0 kV0 dc0 pm0 cd0 ct0 : Value}
    {f1 : Addr} {od1 an1 : Option Addr} {sl1 : Array (Option Value)} {oc1 kV1 dc1 pm1 cd1 ct1 : Value}
    {f2 : Addr} {od2 an2 : Option Addr} {sl2 : Array (Option Value)} {oc2 kV2 dc2 pm2 cd2 ct2 : Value}
    {f3 : Addr} {od3 an3 : Option Addr} {sl3 : Array (Option Value)} {oc3 kV3 dc3 pm3 cd3 ct3 : Value}
    {f4 : Addr} {od4 an4 : Option Addr} {sl4 : Array (Option Value)} {oc4 kV4 dc4 pm4 cd4 ct4 : Value}
    {C_InvalidKinds : Addr}
    {C_InvalidNumber : Addr}
    {C_InvalidPlace : Addr}
    {C_InvalidPlan : Addr}
    {C_InvalidPlayer : Addr}
    {C_InvalidRoad : Addr}
    {C_InvalidSign : Addr}
    {C_InvalidStretch : Addr}
    {C_InvalidWay : Addr}
    {C_NothingToUndo : Addr}
    {C_RoadError : Addr}
    {R_RoadError : Addr}
    {C_Failed fi_Failed Nx_Failed : Addr} {nm_Failed qn_Failed : Str} {bs_Failed bm_Failed sub_Failed : List Value} {sn_Failed : List Str} {ab_Failed : Bool} {col_Failed : Option Bool} {dd_Failed odi_Failed ani_Failed : Option Addr} {m0_Failed m1_Failed m2_Failed m3_Failed m5_Failed : Option Value} {sli_Failed : Array (Option Value)} {oci_Failed kVi_Failed dci_Failed pmi_Failed cdi_Failed cti_Failed : Value}
    {C_InvalidText fi_InvalidText Nx_InvalidText : Addr} {nm_InvalidText qn_InvalidText : Str} {bs_InvalidText bm_InvalidText sub_InvalidText : List Value} {sn_InvalidText : List Str} {ab_InvalidText : Bool} {col_InvalidText : Option Bool} {dd_InvalidText odi_InvalidText ani_InvalidText : Option Addr} {m0_InvalidText m1_InvalidText m2_InvalidText m3_InvalidText m5_InvalidText : Option Value} {sli_InvalidText : Array (Option Value)} {oci_InvalidText kVi_InvalidText dci_InvalidText pmi_InvalidText cdi_InvalidText cti_InvalidText : Value}
    {C_TooMany fi_TooMany Nx_TooMany : Addr} {nm_TooMany qn_TooMany : Str} {bs_TooMany bm_TooMany sub_TooMany : List Value} {sn_TooMany : List Str} {ab_TooMany : Bool} {col_TooMany : Option Bool} {dd_TooMany odi_TooMany ani_TooMany : Option Addr} {m0_TooMany m1_TooMany m2_TooMany m3_TooMany m5_TooMany : Option Value} {sli_TooMany : Array (Option Value)} {oci_TooMany kVi_TooMany dci_TooMany pmi_TooMany cdi_TooMany cti_TooMany : Value}
    (a0 : PySem.W.nsIn K mainGlobals "_law_sack" = some (some (.ref f0))) (l0 : K.lookup f0 = some ⟨oc0, od0, .func (PySem.W.fnOf "_law_sack" "_law_sack" (defArgs s__law_sack) (defBody s__law_sack) (defScope s__law_sack) .none kV0 dc0 pm0 an0 cd0 ct0), sl0⟩) (c0 : PySem.W.codeIn K cd0 "_law_sack" = true) (k0 : PySem.W.keepIn K (.ref f0) = true)
    (a1 : PySem.W.nsIn K mainGlobals "_law_grip" = some (some (.ref f1))) (l1 : K.lookup f1 = some ⟨oc1, od1, .func (PySem.W.fnOf "_law_grip" "_law_grip" (defArgs s__law_grip) (defBody s__law_grip) (defScope s__law_grip) .none kV1 dc1 pm1 an1 cd1 ct1), sl1⟩) (c1 : PySem.W.codeIn K cd1 "_law_grip" = true) (k1 : PySem.W.keepIn K (.ref f1) = true)
    (a2 : PySem.W.nsIn K mainGlobals "_law_pick" = some (some (.ref f2))) (l2 : K.lookup f2 = some ⟨oc2, od2, .func (PySem.W.fnOf "_law_pick" "_law_pick" (defArgs s__law_pick) (defBody s__law_pick) (defScope s__law_pick) .none kV2 dc2 pm2 an2 cd2 ct2), sl2⟩) (c2 : PySem.W.codeIn K cd2 "_law_pick" = true) (k2 : PySem.W.keepIn K (.ref f2) = true)
    (a3 : PySem.W.nsIn K mainGlobals "_law_which" = some (some (.ref f3))) (l3 : K.lookup f3 = some ⟨oc3, od3, .func (PySem.W.fnOf "_law_which" "_law_which" (defArgs s__law_which) (defBody s__law_which) (defScope s__law_which) .none kV3 dc3 pm3 an3 cd3 ct3), sl3⟩) (c3 : PySem.W.codeIn K cd3 "_law_which" = true) (k3 : PySem.W.keepIn K (.ref f3) = true)
    (a4 : PySem.W.nsIn K mainGlobals "law" = some (some (.ref f4))) (l4 : K.lookup f4 = some ⟨oc4, od4, .func (PySem.W.fnOf "law" "law" (defArgs s_law) (defBody s_law) (defScope s_law) .none kV4 dc4 pm4 an4 cd4 ct4), sl4⟩) (c4 : PySem.W.codeIn K cd4 "law" = true) (k4 : PySem.W.keepIn K (.ref f4) = true)
    (z_int : PySem.W.nsIn K mainGlobals "int" = some none)
    (z_isinstance : PySem.W.nsIn K mainGlobals "isinstance" = some none)
    (z_len : PySem.W.nsIn K mainGlobals "len" = some none)
    (z_range : PySem.W.nsIn K mainGlobals "range" = some none)
    (z_str : PySem.W.nsIn K mainGlobals "str" = some none)
    (g_InvalidKinds : PySem.W.nsIn K mainGlobals "InvalidKinds" = some (some (.ref C_InvalidKinds))) (x_InvalidKinds : PySem.W.excIn K C_InvalidKinds [.type "ValueError", .type "Exception", .type "BaseException", .type "object"] "ValueError.__new__" = true) (kp_InvalidKinds : PySem.W.keepIn K (.ref C_InvalidKinds) = true) (sb_InvalidKinds : PySem.W.subIn K (.ref C_InvalidKinds) (.type "BaseException") = some true) (ty_InvalidKinds : PySem.W.typeIn K (.ref C_InvalidKinds) = some (.type "type"))
    (g_InvalidNumber : PySem.W.nsIn K mainGlobals "InvalidNumber" = some (some (.ref C_InvalidNumber))) (x_InvalidNumber : PySem.W.excIn K C_InvalidNumber [.type "ValueError", .type "Exception", .type "BaseException", .type "object"] "ValueError.__new__" = true) (kp_InvalidNumber : PySem.W.keepIn K (.ref C_InvalidNumber) = true) (sb_InvalidNumber : PySem.W.subIn K (.ref C_InvalidNumber) (.type "BaseException") = some true) (ty_InvalidNumber : PySem.W.typeIn K (.ref C_InvalidNumber) = some (.type "type"))
    (g_InvalidPlace : PySem.W.nsIn K mainGlobals "InvalidPlace" = some (some (.ref C_InvalidPlace))) (x_InvalidPlace : PySem.W.excIn K C_InvalidPlace [.type "ValueError", .type "Exception", .type "BaseException", .type "object"] "ValueError.__new__" = true) (kp_InvalidPlace : PySem.W.keepIn K (.ref C_InvalidPlace) = true) (sb_InvalidPlace : PySem.W.subIn K (.ref C_InvalidPlace) (.type "BaseException") = some true) (ty_InvalidPlace : PySem.W.typeIn K (.ref C_InvalidPlace) = some (.type "type"))
    (g_InvalidPlan : PySem.W.nsIn K mainGlobals "InvalidPlan" = some (some (.ref C_InvalidPlan))) (x_InvalidPlan : PySem.W.excIn K C_InvalidPlan [.type "ValueError", .type "Exception", .type "BaseException", .type "object"] "ValueError.__new__" = true) (kp_InvalidPlan : PySem.W.keepIn K (.ref C_InvalidPlan) = true) (sb_InvalidPlan : PySem.W.subIn K (.ref C_InvalidPlan) (.type "BaseException") = some true) (ty_InvalidPlan : PySem.W.typeIn K (.ref C_InvalidPlan) = some (.type "type"))
    (g_InvalidPlayer : PySem.W.nsIn K mainGlobals "InvalidPlayer" = some (some (.ref C_InvalidPlayer))) (x_InvalidPlayer : PySem.W.excIn K C_InvalidPlayer [.type "ValueError", .type "Exception", .type "BaseException", .type "object"] "ValueError.__new__" = true) (kp_InvalidPlayer : PySem.W.keepIn K (.ref C_InvalidPlayer) = true) (sb_InvalidPlayer : PySem.W.subIn K (.ref C_InvalidPlayer) (.type "BaseException") = some true) (ty_InvalidPlayer : PySem.W.typeIn K (.ref C_InvalidPlayer) = some (.type "type"))
    (g_InvalidRoad : PySem.W.nsIn K mainGlobals "InvalidRoad" = some (some (.ref C_InvalidRoad))) (x_InvalidRoad : PySem.W.excIn K C_InvalidRoad [.type "ValueError", .type "Exception", .type "BaseException", .type "object"] "ValueError.__new__" = true) (kp_InvalidRoad : PySem.W.keepIn K (.ref C_InvalidRoad) = true) (sb_InvalidRoad : PySem.W.subIn K (.ref C_InvalidRoad) (.type "BaseException") = some true) (ty_InvalidRoad : PySem.W.typeIn K (.ref C_InvalidRoad) = some (.type "type"))
    (g_InvalidSign : PySem.W.nsIn K mainGlobals "InvalidSign" = some (some (.ref C_InvalidSign))) (x_InvalidSign : PySem.W.excIn K C_InvalidSign [.type "ValueError", .type "Exception", .type "BaseException", .type "object"] "ValueError.__new__" = true) (kp_InvalidSign : PySem.W.keepIn K (.ref C_InvalidSign) = true) (sb_InvalidSign : PySem.W.subIn K (.ref C_InvalidSign) (.type "BaseException") = some true) (ty_InvalidSign : PySem.W.typeIn K (.ref C_InvalidSign) = some (.type "type"))
    (g_InvalidStretch : PySem.W.nsIn K mainGlobals "InvalidStretch" = some (some (.ref C_InvalidStretch))) (x_InvalidStretch : PySem.W.excIn K C_InvalidStretch [.type "ValueError", .type "Exception", .type "BaseException", .type "object"] "ValueError.__new__" = true) (kp_InvalidStretch : PySem.W.keepIn K (.ref C_InvalidStretch) = true) (sb_InvalidStretch : PySem.W.subIn K (.ref C_InvalidStretch) (.type "BaseException") = some true) (ty_InvalidStretch : PySem.W.typeIn K (.ref C_InvalidStretch) = some (.type "type"))
    (g_InvalidWay : PySem.W.nsIn K mainGlobals "InvalidWay" = some (some (.ref C_InvalidWay))) (x_InvalidWay : PySem.W.excIn K C_InvalidWay [.type "ValueError", .type "Exception", .type "BaseException", .type "object"] "ValueError.__new__" = true) (kp_InvalidWay : PySem.W.keepIn K (.ref C_InvalidWay) = true) (sb_InvalidWay : PySem.W.subIn K (.ref C_InvalidWay) (.type "BaseException") = some true) (ty_InvalidWay : PySem.W.typeIn K (.ref C_InvalidWay) = some (.type "type"))
    (g_NothingToUndo : PySem.W.nsIn K mainGlobals "NothingToUndo" = some (some (.ref C_NothingToUndo))) (x_NothingToUndo : PySem.W.excIn K C_NothingToUndo [.type "ValueError", .type "Exception", .type "BaseException", .type "object"] "ValueError.__new__" = true) (kp_NothingToUndo : PySem.W.keepIn K (.ref C_NothingToUndo) = true) (sb_NothingToUndo : PySem.W.subIn K (.ref C_NothingToUndo) (.type "BaseException") = some true) (ty_NothingToUndo : PySem.W.typeIn K (.ref C_NothingToUndo) = some (.type "type"))
    (g_RoadError : PySem.W.nsIn K mainGlobals "RoadError" = some (some (.ref C_RoadError))) (x_RoadError : PySem.W.excIn K C_RoadError [.type "ValueError", .type "Exception", .type "BaseException", .type "object"] "ValueError.__new__" = true) (kp_RoadError : PySem.W.keepIn K (.ref C_RoadError) = true) (sb_RoadError : PySem.W.subIn K (.ref C_RoadError) (.type "BaseException") = some true) (ty_RoadError : PySem.W.typeIn K (.ref C_RoadError) = some (.type "type"))
    (gr_RoadError : PySem.W.nsIn K mainGlobals "RoadError" = some (some (.ref R_RoadError))) (rd_RoadError : PySem.W.readsIn K R_RoadError (.type "type") = true) (ga_RoadError : PySem.W.specialIn K (.ref R_RoadError) "__getattribute__" = some (some (.builtin "type.__getattribute__"))) (cv_RoadError : PySem.W.findCls K (.ref R_RoadError) (.type "type") "__init__" = some (.val (.builtin "ValueError.__init__")))
    (g_Failed : PySem.W.nsIn K mainGlobals "Failed" = some (some (.ref C_Failed))) (lx_Failed : K.lookup C_Failed = some (excClassObj nm_Failed qn_Failed C_Failed Nx_Failed bs_Failed bm_Failed true sn_Failed sub_Failed ab_Failed col_Failed dd_Failed m0_Failed m1_Failed m2_Failed m3_Failed m5_Failed "ValueError.__new__")) (rv_Failed : PySem.HandSPX.refsVE bm_Failed = true) (sa_Failed : PySem.W.findIn K (.ref C_Failed) "__setattr__" = some (some (.builtin "object.__setattr__"))) (no_Failed : PySem.W.findIn K (.ref C_Failed) "place" = some none) (in_Failed : PySem.W.findIn K (.ref C_Failed) "__init__" = some (some (.ref fi_Failed))) (ti_Failed : PySem.W.typeIn K (.ref fi_Failed) = some (.type "function"))
    (kp_Failed : PySem.W.keepIn K (.ref C_Failed) = true) (sb_Failed : PySem.W.subIn K (.ref C_Failed) (.type "BaseException") = some true) (ty_Failed : PySem.W.typeIn K (.ref C_Failed) = some (.type "type")) (li_Failed : K.lookup fi_Failed = some ⟨oci_Failed, odi_Failed, .func (PySem.W.fnOf "__init__" "Failed.__init__" (defArgs si_Failed) (defBody si_Failed) (defScope si_Failed) .none kVi_Failed dci_Failed pmi_Failed ani_Failed cdi_Failed cti_Failed), sli_Failed⟩) (ci_Failed : PySem.W.codeIn K cdi_Failed "Failed.__init__" = true) (ki_Failed : PySem.W.keepIn K (.ref fi_Failed) = true)
    (g_InvalidText : PySem.W.nsIn K mainGlobals "InvalidText" = some (some (.ref C_InvalidText))) (lx_InvalidText : K.lookup C_InvalidText = some (excClassObj nm_InvalidText qn_InvalidText C_InvalidText Nx_InvalidText bs_InvalidText bm_InvalidText true sn_InvalidText sub_InvalidText ab_InvalidText col_InvalidText dd_InvalidText m0_InvalidText m1_InvalidText m2_InvalidText m3_InvalidText m5_InvalidText "ValueError.__new__")) (rv_InvalidText : PySem.HandSPX.refsVE bm_InvalidText = true) (sa_InvalidText : PySem.W.findIn K (.ref C_InvalidText) "__setattr__" = some (some (.builtin "object.__setattr__"))) (no_InvalidText : PySem.W.findIn K (.ref C_InvalidText) "line" = some none) (in_InvalidText : PySem.W.findIn K (.ref C_InvalidText) "__init__" = some (some (.ref fi_InvalidText))) (ti_InvalidText : PySem.W.typeIn K (.ref fi_InvalidText) = some (.type "function"))
    (kp_InvalidText : PySem.W.keepIn K (.ref C_InvalidText) = true) (sb_InvalidText : PySem.W.subIn K (.ref C_InvalidText) (.type "BaseException") = some true) (ty_InvalidText : PySem.W.typeIn K (.ref C_InvalidText) = some (.type "type")) (li_InvalidText : K.lookup fi_InvalidText = some ⟨oci_InvalidText, odi_InvalidText, .func (PySem.W.fnOf "__init__" "InvalidText.__init__" (defArgs si_InvalidText) (defBody si_InvalidText) (defScope si_InvalidText) .none kVi_InvalidText dci_InvalidText pmi_InvalidText ani_InvalidText cdi_InvalidText cti_InvalidText), sli_InvalidText⟩) (ci_InvalidText : PySem.W.codeIn K cdi_InvalidText "InvalidText.__init__" = true) (ki_InvalidText : PySem.W.keepIn K (.ref fi_InvalidText) = true)
    (g_TooMany : PySem.W.nsIn K mainGlobals "TooMany" = some (some (.ref C_TooMany))) (lx_TooMany : K.lookup C_TooMany = some (excClassObj nm_TooMany qn_TooMany C_TooMany Nx_TooMany bs_TooMany bm_TooMany true sn_TooMany sub_TooMany ab_TooMany col_TooMany dd_TooMany m0_TooMany m1_TooMany m2_TooMany m3_TooMany m5_TooMany "ValueError.__new__")) (rv_TooMany : PySem.HandSPX.refsVE bm_TooMany = true) (sa_TooMany : PySem.W.findIn K (.ref C_TooMany) "__setattr__" = some (some (.builtin "object.__setattr__"))) (no_TooMany : PySem.W.findIn K (.ref C_TooMany) "limit" = some none) (in_TooMany : PySem.W.findIn K (.ref C_TooMany) "__init__" = some (some (.ref fi_TooMany))) (ti_TooMany : PySem.W.typeIn K (.ref fi_TooMany) = some (.type "function"))
    (kp_TooMany : PySem.W.keepIn K (.ref C_TooMany) = true) (sb_TooMany : PySem.W.subIn K (.ref C_TooMany) (.type "BaseException") = some true) (ty_TooMany : PySem.W.typeIn K (.ref C_TooMany) = some (.type "type")) (li_TooMany : K.lookup fi_TooMany = some ⟨oci_TooMany, odi_TooMany, .func (PySem.W.fnOf "__init__" "TooMany.__init__" (defArgs si_TooMany) (defBody si_TooMany) (defScope si_TooMany) .none kVi_TooMany dci_TooMany pmi_TooMany ani_TooMany cdi_TooMany cti_TooMany), sli_TooMany⟩) (ci_TooMany : PySem.W.codeIn K cdi_TooMany "TooMany.__init__" = true) (ki_TooMany : PySem.W.keepIn K (.ref fi_TooMany) = true)
    (eg_Failed : PySem.W.findIn K (.ref C_Failed) "__getattribute__" = some (some (.builtin "BaseException.__getattribute__"))) (ek_Failed : PySem.W.findIn K (.ref C_Failed) "__getattr__" = some none) (eh_Failed : PySem.W.hasDictIn K C_Failed = true) (ea_Failed : PySem.W.findIn K (.ref C_Failed) "__class__" = some (some (.builtin "object.__class__"))) (em_Failed : PySem.W.mroIn K C_Failed (.type "object") = some true)
    (eg_InvalidKinds : PySem.W.findIn K (.ref C_InvalidKinds) "__getattribute__" = some (some (.builtin "BaseException.__getattribute__"))) (ek_InvalidKinds : PySem.W.findIn K (.ref C_InvalidKinds) "__getattr__" = some none) (eh_InvalidKinds : PySem.W.hasDictIn K C_InvalidKinds = true) (ea_InvalidKinds : PySem.W.findIn K (.ref C_InvalidKinds) "__class__" = some (some (.builtin "object.__class__"))) (em_InvalidKinds : PySem.W.mroIn K C_InvalidKinds (.type "object") = some true)
    (es_InvalidKinds : PySem.W.findIn K (.ref C_InvalidKinds) "__str__" = some (some (.builtin "BaseException.__str__")))
    (eg_InvalidNumber : PySem.W.findIn K (.ref C_InvalidNumber) "__getattribute__" = some (some (.builtin "BaseException.__getattribute__"))) (ek_InvalidNumber : PySem.W.findIn K (.ref C_InvalidNumber) "__getattr__" = some none) (eh_InvalidNumber : PySem.W.hasDictIn K C_InvalidNumber = true) (ea_InvalidNumber : PySem.W.findIn K (.ref C_InvalidNumber) "__class__" = some (some (.builtin "object.__class__"))) (em_InvalidNumber : PySem.W.mroIn K C_InvalidNumber (.type "object") = some true)
    (es_InvalidNumber : PySem.W.findIn K (.ref C_InvalidNumber) "__str__" = some (some (.builtin "BaseException.__str__")))
    (eg_InvalidPlace : PySem.W.findIn K (.ref C_InvalidPlace) "__getattribute__" = some (some (.builtin "BaseException.__getattribute__"))) (ek_InvalidPlace : PySem.W.findIn K (.ref C_InvalidPlace) "__getattr__" = some none) (eh_InvalidPlace : PySem.W.hasDictIn K C_InvalidPlace = true) (ea_InvalidPlace : PySem.W.findIn K (.ref C_InvalidPlace) "__class__" = some (some (.builtin "object.__class__"))) (em_InvalidPlace : PySem.W.mroIn K C_InvalidPlace (.type "object") = some true)
    (es_InvalidPlace : PySem.W.findIn K (.ref C_InvalidPlace) "__str__" = some (some (.builtin "BaseException.__str__")))
    (eg_InvalidPlan : PySem.W.findIn K (.ref C_InvalidPlan) "__getattribute__" = some (some (.builtin "BaseException.__getattribute__"))) (ek_InvalidPlan : PySem.W.findIn K (.ref C_InvalidPlan) "__getattr__" = some none) (eh_InvalidPlan : PySem.W.hasDictIn K C_InvalidPlan = true) (ea_InvalidPlan : PySem.W.findIn K (.ref C_InvalidPlan) "__class__" = some (some (.builtin "object.__class__"))) (em_InvalidPlan : PySem.W.mroIn K C_InvalidPlan (.type "object") = some true)
    (es_InvalidPlan : PySem.W.findIn K (.ref C_InvalidPlan) "__str__" = some (some (.builtin "BaseException.__str__")))
    (eg_InvalidPlayer : PySem.W.findIn K (.ref C_InvalidPlayer) "__getattribute__" = some (some (.builtin "BaseException.__getattribute__"))) (ek_InvalidPlayer : PySem.W.findIn K (.ref C_InvalidPlayer) "__getattr__" = some none) (eh_InvalidPlayer : PySem.W.hasDictIn K C_InvalidPlayer = true) (ea_InvalidPlayer : PySem.W.findIn K (.ref C_InvalidPlayer) "__class__" = some (some (.builtin "object.__class__"))) (em_InvalidPlayer : PySem.W.mroIn K C_InvalidPlayer (.type "object") = some true)
    (es_InvalidPlayer : PySem.W.findIn K (.ref C_InvalidPlayer) "__str__" = some (some (.builtin "BaseException.__str__")))
    (eg_InvalidRoad : PySem.W.findIn K (.ref C_InvalidRoad) "__getattribute__" = some (some (.builtin "BaseException.__getattribute__"))) (ek_InvalidRoad : PySem.W.findIn K (.ref C_InvalidRoad) "__getattr__" = some none) (eh_InvalidRoad : PySem.W.hasDictIn K C_InvalidRoad = true) (ea_InvalidRoad : PySem.W.findIn K (.ref C_InvalidRoad) "__class__" = some (some (.builtin "object.__class__"))) (em_InvalidRoad : PySem.W.mroIn K C_InvalidRoad (.type "object") = some true)
    (es_InvalidRoad : PySem.W.findIn K (.ref C_InvalidRoad) "__str__" = some (some (.builtin "BaseException.__str__")))
    (eg_InvalidSign : PySem.W.findIn K (.ref C_InvalidSign) "__getattribute__" = some (some (.builtin "BaseException.__getattribute__"))) (ek_InvalidSign : PySem.W.findIn K (.ref C_InvalidSign) "__getattr__" = some none) (eh_InvalidSign : PySem.W.hasDictIn K C_InvalidSign = true) (ea_InvalidSign : PySem.W.findIn K (.ref C_InvalidSign) "__class__" = some (some (.builtin "object.__class__"))) (em_InvalidSign : PySem.W.mroIn K C_InvalidSign (.type "object") = some true)
    (es_InvalidSign : PySem.W.findIn K (.ref C_InvalidSign) "__str__" = some (some (.builtin "BaseException.__str__")))
    (eg_InvalidStretch : PySem.W.findIn K (.ref C_InvalidStretch) "__getattribute__" = some (some (.builtin "BaseException.__getattribute__"))) (ek_InvalidStretch : PySem.W.findIn K (.ref C_InvalidStretch) "__getattr__" = some none) (eh_InvalidStretch : PySem.W.hasDictIn K C_InvalidStretch = true) (ea_InvalidStretch : PySem.W.findIn K (.ref C_InvalidStretch) "__class__" = some (some (.builtin "object.__class__"))) (em_InvalidStretch : PySem.W.mroIn K C_InvalidStretch (.type "object") = some true)
    (es_InvalidStretch : PySem.W.findIn K (.ref C_InvalidStretch) "__str__" = some (some (.builtin "BaseException.__str__")))
    (eg_InvalidText : PySem.W.findIn K (.ref C_InvalidText) "__getattribute__" = some (some (.builtin "BaseException.__getattribute__"))) (ek_InvalidText : PySem.W.findIn K (.ref C_InvalidText) "__getattr__" = some none) (eh_InvalidText : PySem.W.hasDictIn K C_InvalidText = true) (ea_InvalidText : PySem.W.findIn K (.ref C_InvalidText) "__class__" = some (some (.builtin "object.__class__"))) (em_InvalidText : PySem.W.mroIn K C_InvalidText (.type "object") = some true)
    (eg_InvalidWay : PySem.W.findIn K (.ref C_InvalidWay) "__getattribute__" = some (some (.builtin "BaseException.__getattribute__"))) (ek_InvalidWay : PySem.W.findIn K (.ref C_InvalidWay) "__getattr__" = some none) (eh_InvalidWay : PySem.W.hasDictIn K C_InvalidWay = true) (ea_InvalidWay : PySem.W.findIn K (.ref C_InvalidWay) "__class__" = some (some (.builtin "object.__class__"))) (em_InvalidWay : PySem.W.mroIn K C_InvalidWay (.type "object") = some true)
    (es_InvalidWay : PySem.W.findIn K (.ref C_InvalidWay) "__str__" = some (some (.builtin "BaseException.__str__")))
    (eg_NothingToUndo : PySem.W.findIn K (.ref C_NothingToUndo) "__getattribute__" = some (some (.builtin "BaseException.__getattribute__"))) (ek_NothingToUndo : PySem.W.findIn K (.ref C_NothingToUndo) "__getattr__" = some none) (eh_NothingToUndo : PySem.W.hasDictIn K C_NothingToUndo = true) (ea_NothingToUndo : PySem.W.findIn K (.ref C_NothingToUndo) "__class__" = some (some (.builtin "object.__class__"))) (em_NothingToUndo : PySem.W.mroIn K C_NothingToUndo (.type "object") = some true)
    (es_NothingToUndo : PySem.W.findIn K (.ref C_NothingToUndo) "__str__" = some (some (.builtin "BaseException.__str__")))
    (eg_RoadError : PySem.W.findIn K (.ref C_RoadError) "__getattribute__" = some (some (.builtin "BaseException.__getattribute__"))) (ek_RoadError : PySem.W.findIn K (.ref C_RoadError) "__getattr__" = some none) (eh_RoadError : PySem.W.hasDictIn K C_RoadError = true) (ea_RoadError : PySem.W.findIn K (.ref C_RoadError) "__class__" = some (some (.builtin "object.__class__"))) (em_RoadError : PySem.W.mroIn K C_RoadError (.type "object") = some true)
    (es_RoadError : PySem.W.findIn K (.ref C_RoadError) "__str__" = some (some (.builtin "BaseException.__str__")))
    (eg_TooMany : PySem.W.findIn K (.ref C_TooMany) "__getattribute__" = some (some (.builtin "BaseException.__getattribute__"))) (ek_TooMany : PySem.W.findIn K (.ref C_TooMany) "__getattr__" = some none) (eh_TooMany : PySem.W.hasDictIn K C_TooMany = true) (ea_TooMany : PySem.W.findIn K (.ref C_TooMany) "__class__" = some (some (.builtin "object.__class__"))) (em_TooMany : PySem.W.mroIn K C_TooMany (.type "object") = some true)
    (en0 : PySem.W.specialIn K (.builtin "object.__class__") "__get__" = some (some (.builtin "getset_descriptor.__get__"))) (et0 : PySem.W.takesIn K (.builtin "object.__class__") = some true)
    (zy_ValueError : PySem.W.nsIn K mainGlobals "ValueError" = some none)
    (ki_Failed_Failed : PySem.W.kitOne K (.ref C_Failed) (.ref C_Failed) = some true)
    (ki_Failed_InvalidKinds : PySem.W.kitOne K (.ref C_Failed) (.ref C_InvalidKinds) = some false)
    (ki_Failed_InvalidNumber : PySem.W.kitOne K (.ref C_Failed) (.ref C_InvalidNumber) = some false)
    (ki_Failed_InvalidPlace : PySem.W.kitOne K (.ref C_Failed) (.ref C_InvalidPlace) = some false)
    (ki_Failed_InvalidPlan : PySem.W.kitOne K (.ref C_Failed) (.ref C_InvalidPlan) = some false)
    (ki_Failed_InvalidPlayer : PySem.W.kitOne K (.ref C_Failed) (.ref C_InvalidPlayer) = some false)
    (ki_Failed_InvalidRoad : PySem.W.kitOne K (.ref C_Failed) (.ref C_InvalidRoad) = some false)
    (ki_Failed_InvalidSign : PySem.W.kitOne K (.ref C_Failed) (.ref C_InvalidSign) = some false)
    (ki_Failed_InvalidStretch : PySem.W.kitOne K (.ref C_Failed) (.ref C_InvalidStretch) = some false)
    (ki_Failed_InvalidText : PySem.W.kitOne K (.ref C_Failed) (.ref C_InvalidText) = some false)
    (ki_Failed_InvalidWay : PySem.W.kitOne K (.ref C_Failed) (.ref C_InvalidWay) = some false)
    (ki_Failed_NothingToUndo : PySem.W.kitOne K (.ref C_Failed) (.ref C_NothingToUndo) = some false)
    (ki_Failed_RoadError : PySem.W.kitOne K (.ref C_Failed) (.ref C_RoadError) = some true)
    (ki_Failed_TooMany : PySem.W.kitOne K (.ref C_Failed) (.ref C_TooMany) = some false)
    (ki_Failed_ValueError : PySem.W.kitOne K (.ref C_Failed) (.type "ValueError") = some true)
    (ki_InvalidKinds_Failed : PySem.W.kitOne K (.ref C_InvalidKinds) (.ref C_Failed) = some false)
    (ki_InvalidKinds_InvalidKinds : PySem.W.kitOne K (.ref C_InvalidKinds) (.ref C_InvalidKinds) = some true)
    (ki_InvalidKinds_InvalidNumber : PySem.W.kitOne K (.ref C_InvalidKinds) (.ref C_InvalidNumber) = some false)
    (ki_InvalidKinds_InvalidPlace : PySem.W.kitOne K (.ref C_InvalidKinds) (.ref C_InvalidPlace) = some false)
    (ki_InvalidKinds_InvalidPlan : PySem.W.kitOne K (.ref C_InvalidKinds) (.ref C_InvalidPlan) = some false)
    (ki_InvalidKinds_InvalidPlayer : PySem.W.kitOne K (.ref C_InvalidKinds) (.ref C_InvalidPlayer) = some false)
    (ki_InvalidKinds_InvalidRoad : PySem.W.kitOne K (.ref C_InvalidKinds) (.ref C_InvalidRoad) = some false)
    (ki_InvalidKinds_InvalidSign : PySem.W.kitOne K (.ref C_InvalidKinds) (.ref C_InvalidSign) = some false)
    (ki_InvalidKinds_InvalidStretch : PySem.W.kitOne K (.ref C_InvalidKinds) (.ref C_InvalidStretch) = some false)
    (ki_InvalidKinds_InvalidText : PySem.W.kitOne K (.ref C_InvalidKinds) (.ref C_InvalidText) = some false)
    (ki_InvalidKinds_InvalidWay : PySem.W.kitOne K (.ref C_InvalidKinds) (.ref C_InvalidWay) = some false)
    (ki_InvalidKinds_NothingToUndo : PySem.W.kitOne K (.ref C_InvalidKinds) (.ref C_NothingToUndo) = some false)
    (ki_InvalidKinds_RoadError : PySem.W.kitOne K (.ref C_InvalidKinds) (.ref C_RoadError) = some true)
    (ki_InvalidKinds_TooMany : PySem.W.kitOne K (.ref C_InvalidKinds) (.ref C_TooMany) = some false)
    (ki_InvalidKinds_ValueError : PySem.W.kitOne K (.ref C_InvalidKinds) (.type "ValueError") = some true)
    (ki_InvalidNumber_Failed : PySem.W.kitOne K (.ref C_InvalidNumber) (.ref C_Failed) = some false)
    (ki_InvalidNumber_InvalidKinds : PySem.W.kitOne K (.ref C_InvalidNumber) (.ref C_InvalidKinds) = some false)
    (ki_InvalidNumber_InvalidNumber : PySem.W.kitOne K (.ref C_InvalidNumber) (.ref C_InvalidNumber) = some true)
    (ki_InvalidNumber_InvalidPlace : PySem.W.kitOne K (.ref C_InvalidNumber) (.ref C_InvalidPlace) = some false)
    (ki_InvalidNumber_InvalidPlan : PySem.W.kitOne K (.ref C_InvalidNumber) (.ref C_InvalidPlan) = some false)
    (ki_InvalidNumber_InvalidPlayer : PySem.W.kitOne K (.ref C_InvalidNumber) (.ref C_InvalidPlayer) = some false)
    (ki_InvalidNumber_InvalidRoad : PySem.W.kitOne K (.ref C_InvalidNumber) (.ref C_InvalidRoad) = some false)
    (ki_InvalidNumber_InvalidSign : PySem.W.kitOne K (.ref C_InvalidNumber) (.ref C_InvalidSign) = some false)
    (ki_InvalidNumber_InvalidStretch : PySem.W.kitOne K (.ref C_InvalidNumber) (.ref C_InvalidStretch) = some false)
    (ki_InvalidNumber_InvalidText : PySem.W.kitOne K (.ref C_InvalidNumber) (.ref C_InvalidText) = some false)
    (ki_InvalidNumber_InvalidWay : PySem.W.kitOne K (.ref C_InvalidNumber) (.ref C_InvalidWay) = some false)
    (ki_InvalidNumber_NothingToUndo : PySem.W.kitOne K (.ref C_InvalidNumber) (.ref C_NothingToUndo) = some false)
    (ki_InvalidNumber_RoadError : PySem.W.kitOne K (.ref C_InvalidNumber) (.ref C_RoadError) = some true)
    (ki_InvalidNumber_TooMany : PySem.W.kitOne K (.ref C_InvalidNumber) (.ref C_TooMany) = some false)
    (ki_InvalidNumber_ValueError : PySem.W.kitOne K (.ref C_InvalidNumber) (.type "ValueError") = some true)
    (ki_InvalidPlace_Failed : PySem.W.kitOne K (.ref C_InvalidPlace) (.ref C_Failed) = some false)
    (ki_InvalidPlace_InvalidKinds : PySem.W.kitOne K (.ref C_InvalidPlace) (.ref C_InvalidKinds) = some false)
    (ki_InvalidPlace_InvalidNumber : PySem.W.kitOne K (.ref C_InvalidPlace) (.ref C_InvalidNumber) = some false)
    (ki_InvalidPlace_InvalidPlace : PySem.W.kitOne K (.ref C_InvalidPlace) (.ref C_InvalidPlace) = some true)
    (ki_InvalidPlace_InvalidPlan : PySem.W.kitOne K (.ref C_InvalidPlace) (.ref C_InvalidPlan) = some false)
    (ki_InvalidPlace_InvalidPlayer : PySem.W.kitOne K (.ref C_InvalidPlace) (.ref C_InvalidPlayer) = some false)
    (ki_InvalidPlace_InvalidRoad : PySem.W.kitOne K (.ref C_InvalidPlace) (.ref C_InvalidRoad) = some false)
    (ki_InvalidPlace_InvalidSign : PySem.W.kitOne K (.ref C_InvalidPlace) (.ref C_InvalidSign) = some false)
    (ki_InvalidPlace_InvalidStretch : PySem.W.kitOne K (.ref C_InvalidPlace) (.ref C_InvalidStretch) = some false)
    (ki_InvalidPlace_InvalidText : PySem.W.kitOne K (.ref C_InvalidPlace) (.ref C_InvalidText) = some false)
    (ki_InvalidPlace_InvalidWay : PySem.W.kitOne K (.ref C_InvalidPlace) (.ref C_InvalidWay) = some false)
    (ki_InvalidPlace_NothingToUndo : PySem.W.kitOne K (.ref C_InvalidPlace) (.ref C_NothingToUndo) = some false)
    (ki_InvalidPlace_RoadError : PySem.W.kitOne K (.ref C_InvalidPlace) (.ref C_RoadError) = some true)
    (ki_InvalidPlace_TooMany : PySem.W.kitOne K (.ref C_InvalidPlace) (.ref C_TooMany) = some false)
    (ki_InvalidPlace_ValueError : PySem.W.kitOne K (.ref C_InvalidPlace) (.type "ValueError") = some true)
    (ki_InvalidPlan_Failed : PySem.W.kitOne K (.ref C_InvalidPlan) (.ref C_Failed) = some false)
    (ki_InvalidPlan_InvalidKinds : PySem.W.kitOne K (.ref C_InvalidPlan) (.ref C_InvalidKinds) = some false)
    (ki_InvalidPlan_InvalidNumber : PySem.W.kitOne K (.ref C_InvalidPlan) (.ref C_InvalidNumber) = some false)
    (ki_InvalidPlan_InvalidPlace : PySem.W.kitOne K (.ref C_InvalidPlan) (.ref C_InvalidPlace) = some false)
    (ki_InvalidPlan_InvalidPlan : PySem.W.kitOne K (.ref C_InvalidPlan) (.ref C_InvalidPlan) = some true)
    (ki_InvalidPlan_InvalidPlayer : PySem.W.kitOne K (.ref C_InvalidPlan) (.ref C_InvalidPlayer) = some false)
    (ki_InvalidPlan_InvalidRoad : PySem.W.kitOne K (.ref C_InvalidPlan) (.ref C_InvalidRoad) = some false)
    (ki_InvalidPlan_InvalidSign : PySem.W.kitOne K (.ref C_InvalidPlan) (.ref C_InvalidSign) = some false)
    (ki_InvalidPlan_InvalidStretch : PySem.W.kitOne K (.ref C_InvalidPlan) (.ref C_InvalidStretch) = some false)
    (ki_InvalidPlan_InvalidText : PySem.W.kitOne K (.ref C_InvalidPlan) (.ref C_InvalidText) = some false)
    (ki_InvalidPlan_InvalidWay : PySem.W.kitOne K (.ref C_InvalidPlan) (.ref C_InvalidWay) = some false)
    (ki_InvalidPlan_NothingToUndo : PySem.W.kitOne K (.ref C_InvalidPlan) (.ref C_NothingToUndo) = some false)
    (ki_InvalidPlan_RoadError : PySem.W.kitOne K (.ref C_InvalidPlan) (.ref C_RoadError) = some true)
    (ki_InvalidPlan_TooMany : PySem.W.kitOne K (.ref C_InvalidPlan) (.ref C_TooMany) = some false)
    (ki_InvalidPlan_ValueError : PySem.W.kitOne K (.ref C_InvalidPlan) (.type "ValueError") = some true)
    (ki_InvalidPlayer_Failed : PySem.W.kitOne K (.ref C_InvalidPlayer) (.ref C_Failed) = some false)
    (ki_InvalidPlayer_InvalidKinds : PySem.W.kitOne K (.ref C_InvalidPlayer) (.ref C_InvalidKinds) = some false)
    (ki_InvalidPlayer_InvalidNumber : PySem.W.kitOne K (.ref C_InvalidPlayer) (.ref C_InvalidNumber) = some false)
    (ki_InvalidPlayer_InvalidPlace : PySem.W.kitOne K (.ref C_InvalidPlayer) (.ref C_InvalidPlace) = some false)
    (ki_InvalidPlayer_InvalidPlan : PySem.W.kitOne K (.ref C_InvalidPlayer) (.ref C_InvalidPlan) = some false)
    (ki_InvalidPlayer_InvalidPlayer : PySem.W.kitOne K (.ref C_InvalidPlayer) (.ref C_InvalidPlayer) = some true)
    (ki_InvalidPlayer_InvalidRoad : PySem.W.kitOne K (.ref C_InvalidPlayer) (.ref C_InvalidRoad) = some false)
    (ki_InvalidPlayer_InvalidSign : PySem.W.kitOne K (.ref C_InvalidPlayer) (.ref C_InvalidSign) = some false)
    (ki_InvalidPlayer_InvalidStretch : PySem.W.kitOne K (.ref C_InvalidPlayer) (.ref C_InvalidStretch) = some false)
    (ki_InvalidPlayer_InvalidText : PySem.W.kitOne K (.ref C_InvalidPlayer) (.ref C_InvalidText) = some false)
    (ki_InvalidPlayer_InvalidWay : PySem.W.kitOne K (.ref C_InvalidPlayer) (.ref C_InvalidWay) = some false)
    (ki_InvalidPlayer_NothingToUndo : PySem.W.kitOne K (.ref C_InvalidPlayer) (.ref C_NothingToUndo) = some false)
    (ki_InvalidPlayer_RoadError : PySem.W.kitOne K (.ref C_InvalidPlayer) (.ref C_RoadError) = some true)
    (ki_InvalidPlayer_TooMany : PySem.W.kitOne K (.ref C_InvalidPlayer) (.ref C_TooMany) = some false)
    (ki_InvalidPlayer_ValueError : PySem.W.kitOne K (.ref C_InvalidPlayer) (.type "ValueError") = some true)
    (ki_InvalidRoad_Failed : PySem.W.kitOne K (.ref C_InvalidRoad) (.ref C_Failed) = some false)
    (ki_InvalidRoad_InvalidKinds : PySem.W.kitOne K (.ref C_InvalidRoad) (.ref C_InvalidKinds) = some false)
    (ki_InvalidRoad_InvalidNumber : PySem.W.kitOne K (.ref C_InvalidRoad) (.ref C_InvalidNumber) = some false)
    (ki_InvalidRoad_InvalidPlace : PySem.W.kitOne K (.ref C_InvalidRoad) (.ref C_InvalidPlace) = some false)
    (ki_InvalidRoad_InvalidPlan : PySem.W.kitOne K (.ref C_InvalidRoad) (.ref C_InvalidPlan) = some false)
    (ki_InvalidRoad_InvalidPlayer : PySem.W.kitOne K (.ref C_InvalidRoad) (.ref C_InvalidPlayer) = some false)
    (ki_InvalidRoad_InvalidRoad : PySem.W.kitOne K (.ref C_InvalidRoad) (.ref C_InvalidRoad) = some true)
    (ki_InvalidRoad_InvalidSign : PySem.W.kitOne K (.ref C_InvalidRoad) (.ref C_InvalidSign) = some false)
    (ki_InvalidRoad_InvalidStretch : PySem.W.kitOne K (.ref C_InvalidRoad) (.ref C_InvalidStretch) = some false)
    (ki_InvalidRoad_InvalidText : PySem.W.kitOne K (.ref C_InvalidRoad) (.ref C_InvalidText) = some false)
    (ki_InvalidRoad_InvalidWay : PySem.W.kitOne K (.ref C_InvalidRoad) (.ref C_InvalidWay) = some false)
    (ki_InvalidRoad_NothingToUndo : PySem.W.kitOne K (.ref C_InvalidRoad) (.ref C_NothingToUndo) = some false)
    (ki_InvalidRoad_RoadError : PySem.W.kitOne K (.ref C_InvalidRoad) (.ref C_RoadError) = some true)
    (ki_InvalidRoad_TooMany : PySem.W.kitOne K (.ref C_InvalidRoad) (.ref C_TooMany) = some false)
    (ki_InvalidRoad_ValueError : PySem.W.kitOne K (.ref C_InvalidRoad) (.type "ValueError") = some true)
    (ki_InvalidSign_Failed : PySem.W.kitOne K (.ref C_InvalidSign) (.ref C_Failed) = some false)
    (ki_InvalidSign_InvalidKinds : PySem.W.kitOne K (.ref C_InvalidSign) (.ref C_InvalidKinds) = some false)
    (ki_InvalidSign_InvalidNumber : PySem.W.kitOne K (.ref C_InvalidSign) (.ref C_InvalidNumber) = some false)
    (ki_InvalidSign_InvalidPlace : PySem.W.kitOne K (.ref C_InvalidSign) (.ref C_InvalidPlace) = some false)
    (ki_InvalidSign_InvalidPlan : PySem.W.kitOne K (.ref C_InvalidSign) (.ref C_InvalidPlan) = some false)
    (ki_InvalidSign_InvalidPlayer : PySem.W.kitOne K (.ref C_InvalidSign) (.ref C_InvalidPlayer) = some false)
    (ki_InvalidSign_InvalidRoad : PySem.W.kitOne K (.ref C_InvalidSign) (.ref C_InvalidRoad) = some false)
    (ki_InvalidSign_InvalidSign : PySem.W.kitOne K (.ref C_InvalidSign) (.ref C_InvalidSign) = some true)
    (ki_InvalidSign_InvalidStretch : PySem.W.kitOne K (.ref C_InvalidSign) (.ref C_InvalidStretch) = some false)
    (ki_InvalidSign_InvalidText : PySem.W.kitOne K (.ref C_InvalidSign) (.ref C_InvalidText) = some false)
    (ki_InvalidSign_InvalidWay : PySem.W.kitOne K (.ref C_InvalidSign) (.ref C_InvalidWay) = some false)
    (ki_InvalidSign_NothingToUndo : PySem.W.kitOne K (.ref C_InvalidSign) (.ref C_NothingToUndo) = some false)
    (ki_InvalidSign_RoadError : PySem.W.kitOne K (.ref C_InvalidSign) (.ref C_RoadError) = some true)
    (ki_InvalidSign_TooMany : PySem.W.kitOne K (.ref C_InvalidSign) (.ref C_TooMany) = some false)
    (ki_InvalidSign_ValueError : PySem.W.kitOne K (.ref C_InvalidSign) (.type "ValueError") = some true)
    (ki_InvalidStretch_Failed : PySem.W.kitOne K (.ref C_InvalidStretch) (.ref C_Failed) = some false)
    (ki_InvalidStretch_InvalidKinds : PySem.W.kitOne K (.ref C_InvalidStretch) (.ref C_InvalidKinds) = some false)
    (ki_InvalidStretch_InvalidNumber : PySem.W.kitOne K (.ref C_InvalidStretch) (.ref C_InvalidNumber) = some false)
    (ki_InvalidStretch_InvalidPlace : PySem.W.kitOne K (.ref C_InvalidStretch) (.ref C_InvalidPlace) = some false)
    (ki_InvalidStretch_InvalidPlan : PySem.W.kitOne K (.ref C_InvalidStretch) (.ref C_InvalidPlan) = some false)
    (ki_InvalidStretch_InvalidPlayer : PySem.W.kitOne K (.ref C_InvalidStretch) (.ref C_InvalidPlayer) = some false)
    (ki_InvalidStretch_InvalidRoad : PySem.W.kitOne K (.ref C_InvalidStretch) (.ref C_InvalidRoad) = some false)
    (ki_InvalidStretch_InvalidSign : PySem.W.kitOne K (.ref C_InvalidStretch) (.ref C_InvalidSign) = some false)
    (ki_InvalidStretch_InvalidStretch : PySem.W.kitOne K (.ref C_InvalidStretch) (.ref C_InvalidStretch) = some true)
    (ki_InvalidStretch_InvalidText : PySem.W.kitOne K (.ref C_InvalidStretch) (.ref C_InvalidText) = some false)
    (ki_InvalidStretch_InvalidWay : PySem.W.kitOne K (.ref C_InvalidStretch) (.ref C_InvalidWay) = some false)
    (ki_InvalidStretch_NothingToUndo : PySem.W.kitOne K (.ref C_InvalidStretch) (.ref C_NothingToUndo) = some false)
    (ki_InvalidStretch_RoadError : PySem.W.kitOne K (.ref C_InvalidStretch) (.ref C_RoadError) = some true)
    (ki_InvalidStretch_TooMany : PySem.W.kitOne K (.ref C_InvalidStretch) (.ref C_TooMany) = some false)
    (ki_InvalidStretch_ValueError : PySem.W.kitOne K (.ref C_InvalidStretch) (.type "ValueError") = some true)
    (ki_InvalidText_Failed : PySem.W.kitOne K (.ref C_InvalidText) (.ref C_Failed) = some false)
    (ki_InvalidText_InvalidKinds : PySem.W.kitOne K (.ref C_InvalidText) (.ref C_InvalidKinds) = some false)
    (ki_InvalidText_InvalidNumber : PySem.W.kitOne K (.ref C_InvalidText) (.ref C_InvalidNumber) = some false)
    (ki_InvalidText_InvalidPlace : PySem.W.kitOne K (.ref C_InvalidText) (.ref C_InvalidPlace) = some false)
    (ki_InvalidText_InvalidPlan : PySem.W.kitOne K (.ref C_InvalidText) (.ref C_InvalidPlan) = some false)
    (ki_InvalidText_InvalidPlayer : PySem.W.kitOne K (.ref C_InvalidText) (.ref C_InvalidPlayer) = some false)
    (ki_InvalidText_InvalidRoad : PySem.W.kitOne K (.ref C_InvalidText) (.ref C_InvalidRoad) = some false)
    (ki_InvalidText_InvalidSign : PySem.W.kitOne K (.ref C_InvalidText) (.ref C_InvalidSign) = some false)
    (ki_InvalidText_InvalidStretch : PySem.W.kitOne K (.ref C_InvalidText) (.ref C_InvalidStretch) = some false)
    (ki_InvalidText_InvalidText : PySem.W.kitOne K (.ref C_InvalidText) (.ref C_InvalidText) = some true)
    (ki_InvalidText_InvalidWay : PySem.W.kitOne K (.ref C_InvalidText) (.ref C_InvalidWay) = some false)
    (ki_InvalidText_NothingToUndo : PySem.W.kitOne K (.ref C_InvalidText) (.ref C_NothingToUndo) = some false)
    (ki_InvalidText_RoadError : PySem.W.kitOne K (.ref C_InvalidText) (.ref C_RoadError) = some true)
    (ki_InvalidText_TooMany : PySem.W.kitOne K (.ref C_InvalidText) (.ref C_TooMany) = some false)
    (ki_InvalidText_ValueError : PySem.W.kitOne K (.ref C_InvalidText) (.type "ValueError") = some true)
    (ki_InvalidWay_Failed : PySem.W.kitOne K (.ref C_InvalidWay) (.ref C_Failed) = some false)
    (ki_InvalidWay_InvalidKinds : PySem.W.kitOne K (.ref C_InvalidWay) (.ref C_InvalidKinds) = some false)
    (ki_InvalidWay_InvalidNumber : PySem.W.kitOne K (.ref C_InvalidWay) (.ref C_InvalidNumber) = some false)
    (ki_InvalidWay_InvalidPlace : PySem.W.kitOne K (.ref C_InvalidWay) (.ref C_InvalidPlace) = some false)
    (ki_InvalidWay_InvalidPlan : PySem.W.kitOne K (.ref C_InvalidWay) (.ref C_InvalidPlan) = some false)
    (ki_InvalidWay_InvalidPlayer : PySem.W.kitOne K (.ref C_InvalidWay) (.ref C_InvalidPlayer) = some false)
    (ki_InvalidWay_InvalidRoad : PySem.W.kitOne K (.ref C_InvalidWay) (.ref C_InvalidRoad) = some false)
    (ki_InvalidWay_InvalidSign : PySem.W.kitOne K (.ref C_InvalidWay) (.ref C_InvalidSign) = some false)
    (ki_InvalidWay_InvalidStretch : PySem.W.kitOne K (.ref C_InvalidWay) (.ref C_InvalidStretch) = some false)
    (ki_InvalidWay_InvalidText : PySem.W.kitOne K (.ref C_InvalidWay) (.ref C_InvalidText) = some false)
    (ki_InvalidWay_InvalidWay : PySem.W.kitOne K (.ref C_InvalidWay) (.ref C_InvalidWay) = some true)
    (ki_InvalidWay_NothingToUndo : PySem.W.kitOne K (.ref C_InvalidWay) (.ref C_NothingToUndo) = some false)
    (ki_InvalidWay_RoadError : PySem.W.kitOne K (.ref C_InvalidWay) (.ref C_RoadError) = some true)
    (ki_InvalidWay_TooMany : PySem.W.kitOne K (.ref C_InvalidWay) (.ref C_TooMany) = some false)
    (ki_InvalidWay_ValueError : PySem.W.kitOne K (.ref C_InvalidWay) (.type "ValueError") = some true)
    (ki_NothingToUndo_Failed : PySem.W.kitOne K (.ref C_NothingToUndo) (.ref C_Failed) = some false)
    (ki_NothingToUndo_InvalidKinds : PySem.W.kitOne K (.ref C_NothingToUndo) (.ref C_InvalidKinds) = some false)
    (ki_NothingToUndo_InvalidNumber : PySem.W.kitOne K (.ref C_NothingToUndo) (.ref C_InvalidNumber) = some false)
    (ki_NothingToUndo_InvalidPlace : PySem.W.kitOne K (.ref C_NothingToUndo) (.ref C_InvalidPlace) = some false)
    (ki_NothingToUndo_InvalidPlan : PySem.W.kitOne K (.ref C_NothingToUndo) (.ref C_InvalidPlan) = some false)
    (ki_NothingToUndo_InvalidPlayer : PySem.W.kitOne K (.ref C_NothingToUndo) (.ref C_InvalidPlayer) = some false)
    (ki_NothingToUndo_InvalidRoad : PySem.W.kitOne K (.ref C_NothingToUndo) (.ref C_InvalidRoad) = some false)
    (ki_NothingToUndo_InvalidSign : PySem.W.kitOne K (.ref C_NothingToUndo) (.ref C_InvalidSign) = some false)
    (ki_NothingToUndo_InvalidStretch : PySem.W.kitOne K (.ref C_NothingToUndo) (.ref C_InvalidStretch) = some false)
    (ki_NothingToUndo_InvalidText : PySem.W.kitOne K (.ref C_NothingToUndo) (.ref C_InvalidText) = some false)
    (ki_NothingToUndo_InvalidWay : PySem.W.kitOne K (.ref C_NothingToUndo) (.ref C_InvalidWay) = some false)
    (ki_NothingToUndo_NothingToUndo : PySem.W.kitOne K (.ref C_NothingToUndo) (.ref C_NothingToUndo) = some true)
    (ki_NothingToUndo_RoadError : PySem.W.kitOne K (.ref C_NothingToUndo) (.ref C_RoadError) = some true)
    (ki_NothingToUndo_TooMany : PySem.W.kitOne K (.ref C_NothingToUndo) (.ref C_TooMany) = some false)
    (ki_NothingToUndo_ValueError : PySem.W.kitOne K (.ref C_NothingToUndo) (.type "ValueError") = some true)
    (ki_RoadError_Failed : PySem.W.kitOne K (.ref C_RoadError) (.ref C_Failed) = some false)
    (ki_RoadError_InvalidKinds : PySem.W.kitOne K (.ref C_RoadError) (.ref C_InvalidKinds) = some false)
    (ki_RoadError_InvalidNumber : PySem.W.kitOne K (.ref C_RoadError) (.ref C_InvalidNumber) = some false)
    (ki_RoadError_InvalidPlace : PySem.W.kitOne K (.ref C_RoadError) (.ref C_InvalidPlace) = some false)
    (ki_RoadError_InvalidPlan : PySem.W.kitOne K (.ref C_RoadError) (.ref C_InvalidPlan) = some false)
    (ki_RoadError_InvalidPlayer : PySem.W.kitOne K (.ref C_RoadError) (.ref C_InvalidPlayer) = some false)
    (ki_RoadError_InvalidRoad : PySem.W.kitOne K (.ref C_RoadError) (.ref C_InvalidRoad) = some false)
    (ki_RoadError_InvalidSign : PySem.W.kitOne K (.ref C_RoadError) (.ref C_InvalidSign) = some false)
    (ki_RoadError_InvalidStretch : PySem.W.kitOne K (.ref C_RoadError) (.ref C_InvalidStretch) = some false)
    (ki_RoadError_InvalidText : PySem.W.kitOne K (.ref C_RoadError) (.ref C_InvalidText) = some false)
    (ki_RoadError_InvalidWay : PySem.W.kitOne K (.ref C_RoadError) (.ref C_InvalidWay) = some false)
    (ki_RoadError_NothingToUndo : PySem.W.kitOne K (.ref C_RoadError) (.ref C_NothingToUndo) = some false)
    (ki_RoadError_RoadError : PySem.W.kitOne K (.ref C_RoadError) (.ref C_RoadError) = some true)
    (ki_RoadError_TooMany : PySem.W.kitOne K (.ref C_RoadError) (.ref C_TooMany) = some false)
    (ki_RoadError_ValueError : PySem.W.kitOne K (.ref C_RoadError) (.type "ValueError") = some true)
    (ki_TooMany_Failed : PySem.W.kitOne K (.ref C_TooMany) (.ref C_Failed) = some false)
    (ki_TooMany_InvalidKinds : PySem.W.kitOne K (.ref C_TooMany) (.ref C_InvalidKinds) = some false)
    (ki_TooMany_InvalidNumber : PySem.W.kitOne K (.ref C_TooMany) (.ref C_InvalidNumber) = some false)
    (ki_TooMany_InvalidPlace : PySem.W.kitOne K (.ref C_TooMany) (.ref C_InvalidPlace) = some false)
    (ki_TooMany_InvalidPlan : PySem.W.kitOne K (.ref C_TooMany) (.ref C_InvalidPlan) = some false)
    (ki_TooMany_InvalidPlayer : PySem.W.kitOne K (.ref C_TooMany) (.ref C_InvalidPlayer) = some false)
    (ki_TooMany_InvalidRoad : PySem.W.kitOne K (.ref C_TooMany) (.ref C_InvalidRoad) = some false)
    (ki_TooMany_InvalidSign : PySem.W.kitOne K (.ref C_TooMany) (.ref C_InvalidSign) = some false)
    (ki_TooMany_InvalidStretch : PySem.W.kitOne K (.ref C_TooMany) (.ref C_InvalidStretch) = some false)
    (ki_TooMany_InvalidText : PySem.W.kitOne K (.ref C_TooMany) (.ref C_InvalidText) = some false)
    (ki_TooMany_InvalidWay : PySem.W.kitOne K (.ref C_TooMany) (.ref C_InvalidWay) = some false)
    (ki_TooMany_NothingToUndo : PySem.W.kitOne K (.ref C_TooMany) (.ref C_NothingToUndo) = some false)
    (ki_TooMany_RoadError : PySem.W.kitOne K (.ref C_TooMany) (.ref C_RoadError) = some true)
    (ki_TooMany_TooMany : PySem.W.kitOne K (.ref C_TooMany) (.ref C_TooMany) = some true)
    (ki_TooMany_ValueError : PySem.W.kitOne K (.ref C_TooMany) (.type "ValueError") = some true)
    (yga_TooMany : PySem.W.findIn K (.ref C_TooMany) "__getattribute__" = some (some (.builtin "BaseException.__getattribute__"))) (ygg_TooMany : PySem.W.findIn K (.ref C_TooMany) "__getattr__" = some none) (yhd_TooMany : PySem.W.hasDictIn K C_TooMany = true)
    (yga_InvalidText : PySem.W.findIn K (.ref C_InvalidText) "__getattribute__" = some (some (.builtin "BaseException.__getattribute__"))) (ygg_InvalidText : PySem.W.findIn K (.ref C_InvalidText) "__getattr__" = some none) (yhd_InvalidText : PySem.W.hasDictIn K C_InvalidText = true)
    (yga_Failed : PySem.W.findIn K (.ref C_Failed) "__getattribute__" = some (some (.builtin "BaseException.__getattribute__"))) (ygg_Failed : PySem.W.findIn K (.ref C_Failed) "__getattr__" = some none) (yhd_Failed : PySem.W.hasDictIn K C_Failed = true)
    : ∃ fd : FuncData, (∀ (s : Shared) (v : Value), BindsTo s fd ⟨[v], []⟩ [("script", v)]) ∧ ∀ base : Heap, K.In base → base.Ns mainGlobals mg → FnOk l.prog w K mg base (L2.CX l.prog w) 3 fa fd ["script"] (spLaw K) := by
  have e := hfa.symm.trans (PySem.W.mg_of X G a4)
  cases e
  refine ⟨PySem.W.fnOf "law" "law" (defArgs s_law) (defBody s_law) (defScope s_law) .none kV4 dc4 pm4 an4 cd4 ct4, fun s v => .of_eq rfl, fun base X2 G2 => ?_⟩
  have hisx_Failed : XK ⟨l.prog, w, K, mg, []⟩ is_Failed := by
    intro p hp
    simp only [is_Failed, List.mem_cons, List.not_mem_nil, or_false] at hp
    rcases hp with rfl | rfl | rfl | rfl | rfl | rfl | rfl | rfl | rfl | rfl | rfl | rfl | rfl | rfl | rfl
    · exact ⟨_, _, PySem.W.mg_of X G g_Failed, ⟨eg_Failed, ek_Failed, sb_Failed, eh_Failed, ea_Failed, en0, et0, em_Failed⟩, .inl ⟨PySem.W.mg_of X G g_Failed, _, rfl⟩, ki_Failed_Failed⟩
    · exact ⟨_, _, PySem.W.mg_of X G g_Failed, ⟨eg_Failed, ek_Failed, sb_Failed, eh_Failed, ea_Failed, en0, et0, em_Failed⟩, .inl ⟨PySem.W.mg_of X G g_InvalidKinds, _, rfl⟩, ki_Failed_InvalidKinds⟩
    · exact ⟨_, _, PySem.W.mg_of X G g_Failed, ⟨eg_Failed, ek_Failed, sb_Failed, eh_Failed, ea_Failed, en0, et0, em_Failed⟩, .inl ⟨PySem.W.mg_of X G g_InvalidNumber, _, rfl⟩, ki_Failed_InvalidNumber⟩
    · exact ⟨_, _, PySem.W.mg_of X G g_Failed, ⟨eg_Failed, ek_Failed, sb_Failed, eh_Failed, ea_Failed, en0, et0, em_Failed⟩, .inl ⟨PySem.W.mg_of X G g_InvalidPlace, _, rfl⟩, ki_Failed_InvalidPlace⟩
    · exact ⟨_, _, PySem.W.mg_of X G g_Failed, ⟨eg_Failed, ek_Failed, sb_Failed, eh_Failed, ea_Failed, en0, et0, em_Failed⟩, .inl ⟨PySem.W.mg_of X G g_InvalidPlan, _, rfl⟩, ki_Failed_InvalidPlan⟩
    · exact ⟨_, _, PySem.W.mg_of X G g_Failed, ⟨eg_Failed, ek_Failed, sb_Failed, eh_Failed, ea_Failed, en0, et0, em_Failed⟩, .inl ⟨PySem.W.mg_of X G g_InvalidPlayer, _, rfl⟩, ki_Failed_InvalidPlayer⟩
    · exact ⟨_, _, PySem.W.mg_of X G g_Failed, ⟨eg_Failed, ek_Failed, sb_Failed, eh_Failed, ea_Failed, en0, et0, em_Failed⟩, .inl ⟨PySem.W.mg_of X G g_InvalidRoad, _, rfl⟩, ki_Failed_InvalidRoad⟩
    · exact ⟨_, _, PySem.W.mg_of X G g_Failed, ⟨eg_Failed, ek_Failed, sb_Failed, eh_Failed, ea_Failed, en0, et0, em_Failed⟩, .inl ⟨PySem.W.mg_of X G g_InvalidSign, _, rfl⟩, ki_Failed_InvalidSign⟩
    · exact ⟨_, _, PySem.W.mg_of X G g_Failed, ⟨eg_Failed, ek_Failed, sb_Failed, eh_Failed, ea_Failed, en0, et0, em_Failed⟩, .inl ⟨PySem.W.mg_of X G g_InvalidStretch, _, rfl⟩, ki_Failed_InvalidStretch⟩
    · exact ⟨_, _, PySem.W.mg_of X G g_Failed, ⟨eg_Failed, ek_Failed, sb_Failed, eh_Failed, ea_Failed, en0, et0, em_Failed⟩, .inl ⟨PySem.W.mg_of X G g_InvalidText, _, rfl⟩, ki_Failed_InvalidText⟩
    · exact ⟨_, _, PySem.W.mg_of X G g_Failed, ⟨eg_Failed, ek_Failed, sb_Failed, eh_Failed, ea_Failed, en0, et0, em_Failed⟩, .inl ⟨PySem.W.mg_of X G g_InvalidWay, _, rfl⟩, ki_Failed_InvalidWay⟩
    · exact ⟨_, _, PySem.W.mg_of X G g_Failed, ⟨eg_Failed, ek_Failed, sb_Failed, eh_Failed, ea_Failed, en0, et0, em_Failed⟩, .inl ⟨PySem.W.mg_of X G g_NothingToUndo, _, rfl⟩, ki_Failed_NothingToUndo⟩
    · exact ⟨_, _, PySem.W.mg_of X G g_Failed, ⟨eg_Failed, ek_Failed, sb_Failed, eh_Failed, ea_Failed, en0, et0, em_Failed⟩, .inl ⟨PySem.W.mg_of X G g_RoadError, _, rfl⟩, ki_Failed_RoadError⟩
    · exact ⟨_, _, PySem.W.mg_of X G g_Failed, ⟨eg_Failed, ek_Failed, sb_Failed, eh_Failed, ea_Failed, en0, et0, em_Failed⟩, .inl ⟨PySem.W.mg_of X G g_TooMany, _, rfl⟩, ki_Failed_TooMany⟩
    · exact ⟨_, _, PySem.W.mg_of X G g_Failed, ⟨eg_Failed, ek_Failed, sb_Failed, eh_Failed, ea_Failed, en0, et0, em_Failed⟩, .inr ⟨PySem.W.mg_none_of X G zy_ValueError, by decide +kernel, rfl⟩, ki_Failed_ValueError⟩
  have hisx_InvalidKinds : XK ⟨l.prog, w, K, mg, []⟩ is_InvalidKinds := by
    intro p hp
    simp only [is_InvalidKinds, List.mem_cons, List.not_mem_nil, or_false] at hp
    rcases hp with rfl | rfl | rfl | rfl | rfl | rfl | rfl | rfl | rfl | rfl | rfl | rfl | rfl | rfl | rfl
    · exact ⟨_, _, PySem.W.mg_of X G g_InvalidKinds, ⟨eg_InvalidKinds, ek_InvalidKinds, sb_InvalidKinds, eh_InvalidKinds, ea_InvalidKinds, en0, et0, em_InvalidKinds⟩, .inl ⟨PySem.W.mg_of X G g_Failed, _, rfl⟩, ki_InvalidKinds_Failed⟩
    · exact ⟨_, _, PySem.W.mg_of X G g_InvalidKinds, ⟨eg_InvalidKinds, ek_InvalidKinds, sb_InvalidKinds, eh_InvalidKinds, ea_InvalidKinds, en0, et0, em_InvalidKinds⟩, .inl ⟨PySem.W.mg_of X G g_InvalidKinds, _, rfl⟩, ki_InvalidKinds_InvalidKinds⟩
    · exact ⟨_, _, PySem.W.mg_of X G g_InvalidKinds, ⟨eg_InvalidKinds, ek_InvalidKinds, sb_InvalidKinds, eh_InvalidKinds, ea_InvalidKinds, en0, et0, em_InvalidKinds⟩, .inl ⟨PySem.W.mg_of X G g_InvalidNumber, _, rfl⟩, ki_InvalidKinds_InvalidNumber⟩
    · exact ⟨_, _, PySem.W.mg_of X G g_InvalidKinds, ⟨eg_InvalidKinds, ek_InvalidKinds, sb_InvalidKinds, eh_InvalidKinds, ea_InvalidKinds, en0, et0, em_InvalidKinds⟩, .inl ⟨PySem.W.mg_of X G g_InvalidPlace, _, rfl⟩, ki_InvalidKinds_InvalidPlace⟩
    · exact ⟨_, _, PySem.W.mg_of X G g_InvalidKinds, ⟨eg_InvalidKinds, ek_InvalidKinds, sb_InvalidKinds, eh_InvalidKinds, ea_InvalidKinds, en0, et0, em_InvalidKinds⟩, .inl ⟨PySem.W.mg_of X G g_InvalidPlan, _, rfl⟩, ki_InvalidKinds_InvalidPlan⟩
    · exact ⟨_, _, PySem.W.mg_of X G g_InvalidKinds, ⟨eg_InvalidKinds, ek_InvalidKinds, sb_InvalidKinds, eh_InvalidKinds, ea_InvalidKinds, en0, et0, em_InvalidKinds⟩, .inl ⟨PySem.W.mg_of X G g_InvalidPlayer, _, rfl⟩, ki_InvalidKinds_InvalidPlayer⟩
    · exact ⟨_, _, PySem.W.mg_of X G g_InvalidKinds, ⟨eg_InvalidKinds, ek_InvalidKinds, sb_InvalidKinds, eh_InvalidKinds, ea_InvalidKinds, en0, et0, em_InvalidKinds⟩, .inl ⟨PySem.W.mg_of X G g_InvalidRoad, _, rfl⟩, ki_InvalidKinds_InvalidRoad⟩
    · exact ⟨_, _, PySem.W.mg_of X G g_InvalidKinds, ⟨eg_InvalidKinds, ek_InvalidKinds, sb_InvalidKinds, eh_InvalidKinds, ea_InvalidKinds, en0, et0, em_InvalidKinds⟩, .inl ⟨PySem.W.mg_of X G g_InvalidSign, _, rfl⟩, ki_InvalidKinds_InvalidSign⟩
    · exact ⟨_, _, PySem.W.mg_of X G g_InvalidKinds, ⟨eg_InvalidKinds, ek_InvalidKinds, sb_InvalidKinds, eh_InvalidKinds, ea_InvalidKinds, en0, et0, em_InvalidKinds⟩, .inl ⟨PySem.W.mg_of X G g_InvalidStretch, _, rfl⟩, ki_InvalidKinds_InvalidStretch⟩
    · exact ⟨_, _, PySem.W.mg_of X G g_InvalidKinds, ⟨eg_InvalidKinds, ek_InvalidKinds, sb_InvalidKinds, eh_InvalidKinds, ea_InvalidKinds, en0, et0, em_InvalidKinds⟩, .inl ⟨PySem.W.mg_of X G g_InvalidText, _, rfl⟩, ki_InvalidKinds_InvalidText⟩
    · exact ⟨_, _, PySem.W.mg_of X G g_InvalidKinds, ⟨eg_InvalidKinds, ek_InvalidKinds, sb_InvalidKinds, eh_InvalidKinds, ea_InvalidKinds, en0, et0, em_InvalidKinds⟩, .inl ⟨PySem.W.mg_of X G g_InvalidWay, _, rfl⟩, ki_InvalidKinds_InvalidWay⟩
    · exact ⟨_, _, PySem.W.mg_of X G g_InvalidKinds, ⟨eg_InvalidKinds, ek_InvalidKinds, sb_InvalidKinds, eh_InvalidKinds, ea_InvalidKinds, en0, et0, em_InvalidKinds⟩, .inl ⟨PySem.W.mg_of X G g_NothingToUndo, _, rfl⟩, ki_InvalidKinds_NothingToUndo⟩
    · exact ⟨_, _, PySem.W.mg_of X G g_InvalidKinds, ⟨eg_InvalidKinds, ek_InvalidKinds, sb_InvalidKinds, eh_InvalidKinds, ea_InvalidKinds, en0, et0, em_InvalidKinds⟩, .inl ⟨PySem.W.mg_of X G g_RoadError, _, rfl⟩, ki_InvalidKinds_RoadError⟩
    · exact ⟨_, _, PySem.W.mg_of X G g_InvalidKinds, ⟨eg_InvalidKinds, ek_InvalidKinds, sb_InvalidKinds, eh_InvalidKinds, ea_InvalidKinds, en0, et0, em_InvalidKinds⟩, .inl ⟨PySem.W.mg_of X G g_TooMany, _, rfl⟩, ki_InvalidKinds_TooMany⟩
    · exact ⟨_, _, PySem.W.mg_of X G g_InvalidKinds, ⟨eg_InvalidKinds, ek_InvalidKinds, sb_InvalidKinds, eh_InvalidKinds, ea_InvalidKinds, en0, et0, em_InvalidKinds⟩, .inr ⟨PySem.W.mg_none_of X G zy_ValueError, by decide +kernel, rfl⟩, ki_InvalidKinds_ValueError⟩
  have hisx_InvalidNumber : XK ⟨l.prog, w, K, mg, []⟩ is_InvalidNumber := by
    intro p hp
    simp only [is_InvalidNumber, List.mem_cons, List.not_mem_nil, or_false] at hp
    rcases hp with rfl | rfl | rfl | rfl | rfl | rfl | rfl | rfl | rfl | rfl | rfl | rfl | rfl | rfl | rfl
    · exact ⟨_, _, PySem.W.mg_of X G g_InvalidNumber, ⟨eg_InvalidNumber, ek_InvalidNumber, sb_InvalidNumber, eh_InvalidNumber, ea_InvalidNumber, en0, et0, em_InvalidNumber⟩, .inl ⟨PySem.W.mg_of X G g_Failed, _, rfl⟩, ki_InvalidNumber_Failed⟩
    · exact ⟨_, _, PySem.W.mg_of X G g_InvalidNumber, ⟨eg_InvalidNumber, ek_InvalidNumber, sb_InvalidNumber, eh_InvalidNumber, ea_InvalidNumber, en0, et0, em_InvalidNumber⟩, .inl ⟨PySem.W.mg_of X G g_InvalidKinds, _, rfl⟩, ki_InvalidNumber_InvalidKinds⟩
    · exact ⟨_, _, PySem.W.mg_of X G g_InvalidNumber, ⟨eg_InvalidNumber, ek_InvalidNumber, sb_InvalidNumber, eh_InvalidNumber, ea_InvalidNumber, en0, et0, em_InvalidNumber⟩, .inl ⟨PySem.W.mg_of X G g_InvalidNumber, _, rfl⟩, ki_InvalidNumber_InvalidNumber⟩
    · exact ⟨_, _, PySem.W.mg_of X G g_InvalidNumber, ⟨eg_InvalidNumber, ek_InvalidNumber, sb_InvalidNumber, eh_InvalidNumber, ea_InvalidNumber, en0, et0, em_InvalidNumber⟩, .inl ⟨PySem.W.mg_of X G g_InvalidPlace, _, rfl⟩, ki_InvalidNumber_InvalidPlace⟩
    · exact ⟨_, _, PySem.W.mg_of X G g_InvalidNumber, ⟨eg_InvalidNumber, ek_InvalidNumber, sb_InvalidNumber, eh_InvalidNumber, ea_InvalidNumber, en0, et0, em_InvalidNumber⟩, .inl ⟨PySem.W.mg_of X G g_InvalidPlan, _, rfl⟩, ki_InvalidNumber_InvalidPlan⟩
    · exact ⟨_, _, PySem.W.mg_of X G g_InvalidNumber, ⟨eg_InvalidNumber, ek_InvalidNumber, sb_InvalidNumber, eh_InvalidNumber, ea_InvalidNumber, en0, et0, em_InvalidNumber⟩, .inl ⟨PySem.W.mg_of X G g_InvalidPlayer, _, rfl⟩, ki_InvalidNumber_InvalidPlayer⟩
    · exact ⟨_, _, PySem.W.mg_of X G g_InvalidNumber, ⟨eg_InvalidNumber, ek_InvalidNumber, sb_InvalidNumber, eh_InvalidNumber, ea_InvalidNumber, en0, et0, em_InvalidNumber⟩, .inl ⟨PySem.W.mg_of X G g_InvalidRoad, _, rfl⟩, ki_InvalidNumber_InvalidRoad⟩
    · exact ⟨_, _, PySem.W.mg_of X G g_InvalidNumber, ⟨eg_InvalidNumber, ek_InvalidNumber, sb_InvalidNumber, eh_InvalidNumber, ea_InvalidNumber, en0, et0, em_InvalidNumber⟩, .inl ⟨PySem.W.mg_of X G g_InvalidSign, _, rfl⟩, ki_InvalidNumber_InvalidSign⟩
    · exact ⟨_, _, PySem.W.mg_of X G g_InvalidNumber, ⟨eg_InvalidNumber, ek_InvalidNumber, sb_InvalidNumber, eh_InvalidNumber, ea_InvalidNumber, en0, et0, em_InvalidNumber⟩, .inl ⟨PySem.W.mg_of X G g_InvalidStretch, _, rfl⟩, ki_InvalidNumber_InvalidStretch⟩
    · exact ⟨_, _, PySem.W.mg_of X G g_InvalidNumber, ⟨eg_InvalidNumber, ek_InvalidNumber, sb_InvalidNumber, eh_InvalidNumber, ea_InvalidNumber, en0, et0, em_InvalidNumber⟩, .inl ⟨PySem.W.mg_of X G g_InvalidText, _, rfl⟩, ki_InvalidNumber_InvalidText⟩
    · exact ⟨_, _, PySem.W.mg_of X G g_InvalidNumber, ⟨eg_InvalidNumber, ek_InvalidNumber, sb_InvalidNumber, eh_InvalidNumber, ea_InvalidNumber, en0, et0, em_InvalidNumber⟩, .inl ⟨PySem.W.mg_of X G g_InvalidWay, _, rfl⟩, ki_InvalidNumber_InvalidWay⟩
    · exact ⟨_, _, PySem.W.mg_of X G g_InvalidNumber, ⟨eg_InvalidNumber, ek_InvalidNumber, sb_InvalidNumber, eh_InvalidNumber, ea_InvalidNumber, en0, et0, em_InvalidNumber⟩, .inl ⟨PySem.W.mg_of X G g_NothingToUndo, _, rfl⟩, ki_InvalidNumber_NothingToUndo⟩
    · exact ⟨_, _, PySem.W.mg_of X G g_InvalidNumber, ⟨eg_InvalidNumber, ek_InvalidNumber, sb_InvalidNumber, eh_InvalidNumber, ea_InvalidNumber, en0, et0, em_InvalidNumber⟩, .inl ⟨PySem.W.mg_of X G g_RoadError, _, rfl⟩, ki_InvalidNumber_RoadError⟩
    · exact ⟨_, _, PySem.W.mg_of X G g_InvalidNumber, ⟨eg_InvalidNumber, ek_InvalidNumber, sb_InvalidNumber, eh_InvalidNumber, ea_InvalidNumber, en0, et0, em_InvalidNumber⟩, .inl ⟨PySem.W.mg_of X G g_TooMany, _, rfl⟩, ki_InvalidNumber_TooMany⟩
    · exact ⟨_, _, PySem.W.mg_of X G g_InvalidNumber, ⟨eg_InvalidNumber, ek_InvalidNumber, sb_InvalidNumber, eh_InvalidNumber, ea_InvalidNumber, en0, et0, em_InvalidNumber⟩, .inr ⟨PySem.W.mg_none_of X G zy_ValueError, by decide +kernel, rfl⟩, ki_InvalidNumber_ValueError⟩
  have hisx_InvalidPlace : XK ⟨l.prog, w, K, mg, []⟩ is_InvalidPlace := by
    intro p hp
    simp only [is_InvalidPlace, List.mem_cons, List.not_mem_nil, or_false] at hp
    rcases hp with rfl | rfl | rfl | rfl | rfl | rfl | rfl | rfl | rfl | rfl | rfl | rfl | rfl | rfl | rfl
    · exact ⟨_, _, PySem.W.mg_of X G g_InvalidPlace, ⟨eg_InvalidPlace, ek_InvalidPlace, sb_InvalidPlace, eh_InvalidPlace, ea_InvalidPlace, en0, et0, em_InvalidPlace⟩, .inl ⟨PySem.W.mg_of X G g_Failed, _, rfl⟩, ki_InvalidPlace_Failed⟩
    · exact ⟨_, _, PySem.W.mg_of X G g_InvalidPlace, ⟨eg_InvalidPlace, ek_InvalidPlace, sb_InvalidPlace, eh_InvalidPlace, ea_InvalidPlace, en0, et0, em_InvalidPlace⟩, .inl ⟨PySem.W.mg_of X G g_InvalidKinds, _, rfl⟩, ki_InvalidPlace_InvalidKinds⟩
    · exact ⟨_, _, PySem.W.mg_of X G g_InvalidPlace, ⟨eg_InvalidPlace, ek_InvalidPlace, sb_InvalidPlace, eh_InvalidPlace, ea_InvalidPlace, en0, et0, em_InvalidPlace⟩, .inl ⟨PySem.W.mg_of X G g_InvalidNumber, _, rfl⟩, ki_InvalidPlace_InvalidNumber⟩
    · exact ⟨_, _, PySem.W.mg_of X G g_InvalidPlace, ⟨eg_InvalidPlace, ek_InvalidPlace, sb_InvalidPlace, eh_InvalidPlace, ea_InvalidPlace, en0, et0, em_InvalidPlace⟩, .inl ⟨PySem.W.mg_of X G g_InvalidPlace, _, rfl⟩, ki_InvalidPlace_InvalidPlace⟩
    · exact ⟨_, _, PySem.W.mg_of X G g_InvalidPlace, ⟨eg_InvalidPlace, ek_InvalidPlace, sb_InvalidPlace, eh_InvalidPlace, ea_InvalidPlace, en0, et0, em_InvalidPlace⟩, .inl ⟨PySem.W.mg_of X G g_InvalidPlan, _, rfl⟩, ki_InvalidPlace_InvalidPlan⟩
    · exact ⟨_, _, PySem.W.mg_of X G g_InvalidPlace, ⟨eg_InvalidPlace, ek_InvalidPlace, sb_InvalidPlace, eh_InvalidPlace, ea_InvalidPlace, en0, et0, em_InvalidPlace⟩, .inl ⟨PySem.W.mg_of X G g_InvalidPlayer, _, rfl⟩, ki_InvalidPlace_InvalidPlayer⟩
    · exact ⟨_, _, PySem.W.mg_of X G g_InvalidPlace, ⟨eg_InvalidPlace, ek_InvalidPlace, sb_InvalidPlace, eh_InvalidPlace, ea_InvalidPlace, en0, et0, em_InvalidPlace⟩, .inl ⟨PySem.W.mg_of X G g_InvalidRoad, _, rfl⟩, ki_InvalidPlace_InvalidRoad⟩
    · exact ⟨_, _, PySem.W.mg_of X G g_InvalidPlace, ⟨eg_InvalidPlace, ek_InvalidPlace, sb_InvalidPlace, eh_InvalidPlace, ea_InvalidPlace, en0, et0, em_InvalidPlace⟩, .inl ⟨PySem.W.mg_of X G g_InvalidSign, _, rfl⟩, ki_InvalidPlace_InvalidSign⟩
    · exact ⟨_, _, PySem.W.mg_of X G g_InvalidPlace, ⟨eg_InvalidPlace, ek_InvalidPlace, sb_InvalidPlace, eh_InvalidPlace, ea_InvalidPlace, en0, et0, em_InvalidPlace⟩, .inl ⟨PySem.W.mg_of X G g_InvalidStretch, _, rfl⟩, ki_InvalidPlace_InvalidStretch⟩
    · exact ⟨_, _, PySem.W.mg_of X G g_InvalidPlace, ⟨eg_InvalidPlace, ek_InvalidPlace, sb_InvalidPlace, eh_InvalidPlace, ea_InvalidPlace, en0, et0, em_InvalidPlace⟩, .inl ⟨PySem.W.mg_of X G g_InvalidText, _, rfl⟩, ki_InvalidPlace_InvalidText⟩
    · exact ⟨_, _, PySem.W.mg_of X G g_InvalidPlace, ⟨eg_InvalidPlace, ek_InvalidPlace, sb_InvalidPlace, eh_InvalidPlace, ea_InvalidPlace, en0, et0, em_InvalidPlace⟩, .inl ⟨PySem.W.mg_of X G g_InvalidWay, _, rfl⟩, ki_InvalidPlace_InvalidWay⟩
    · exact ⟨_, _, PySem.W.mg_of X G g_InvalidPlace, ⟨eg_InvalidPlace, ek_InvalidPlace, sb_InvalidPlace, eh_InvalidPlace, ea_InvalidPlace, en0, et0, em_InvalidPlace⟩, .inl ⟨PySem.W.mg_of X G g_NothingToUndo, _, rfl⟩, ki_InvalidPlace_NothingToUndo⟩
    · exact ⟨_, _, PySem.W.mg_of X G g_InvalidPlace, ⟨eg_InvalidPlace, ek_InvalidPlace, sb_InvalidPlace, eh_InvalidPlace, ea_InvalidPlace, en0, et0, em_InvalidPlace⟩, .inl ⟨PySem.W.mg_of X G g_RoadError, _, rfl⟩, ki_InvalidPlace_RoadError⟩
    · exact ⟨_, _, PySem.W.mg_of X G g_InvalidPlace, ⟨eg_InvalidPlace, ek_InvalidPlace, sb_InvalidPlace, eh_InvalidPlace, ea_InvalidPlace, en0, et0, em_InvalidPlace⟩, .inl ⟨PySem.W.mg_of X G g_TooMany, _, rfl⟩, ki_InvalidPlace_TooMany⟩
    · exact ⟨_, _, PySem.W.mg_of X G g_InvalidPlace, ⟨eg_InvalidPlace, ek_InvalidPlace, sb_InvalidPlace, eh_InvalidPlace, ea_InvalidPlace, en0, et0, em_InvalidPlace⟩, .inr ⟨PySem.W.mg_none_of X G zy_ValueError, by decide +kernel, rfl⟩, ki_InvalidPlace_ValueError⟩
  have hisx_InvalidPlan : XK ⟨l.prog, w, K, mg, []⟩ is_InvalidPlan := by
    intro p hp
    simp only [is_InvalidPlan, List.mem_cons, List.not_mem_nil, or_false] at hp
    rcases hp with rfl | rfl | rfl | rfl | rfl | rfl | rfl | rfl | rfl | rfl | rfl | rfl | rfl | rfl | rfl
    · exact ⟨_, _, PySem.W.mg_of X G g_InvalidPlan, ⟨eg_InvalidPlan, ek_InvalidPlan, sb_InvalidPlan, eh_InvalidPlan, ea_InvalidPlan, en0, et0, em_InvalidPlan⟩, .inl ⟨PySem.W.mg_of X G g_Failed, _, rfl⟩, ki_InvalidPlan_Failed⟩
    · exact ⟨_, _, PySem.W.mg_of X G g_InvalidPlan, ⟨eg_InvalidPlan, ek_InvalidPlan, sb_InvalidPlan, eh_InvalidPlan, ea_InvalidPlan, en0, et0, em_InvalidPlan⟩, .inl ⟨PySem.W.mg_of X G g_InvalidKinds, _, rfl⟩, ki_InvalidPlan_InvalidKinds⟩
    · exact ⟨_, _, PySem.W.mg_of X G g_InvalidPlan, ⟨eg_InvalidPlan, ek_InvalidPlan, sb_InvalidPlan, eh_InvalidPlan, ea_InvalidPlan, en0, et0, em_InvalidPlan⟩, .inl ⟨PySem.W.mg_of X G g_InvalidNumber, _, rfl⟩, ki_InvalidPlan_InvalidNumber⟩
    · exact ⟨_, _, PySem.W.mg_of X G g_InvalidPlan, ⟨eg_InvalidPlan, ek_InvalidPlan, sb_InvalidPlan, eh_InvalidPlan, ea_InvalidPlan, en0, et0, em_InvalidPlan⟩, .inl ⟨PySem.W.mg_of X G g_InvalidPlace, _, rfl⟩, ki_InvalidPlan_InvalidPlace⟩
    · exact ⟨_, _, PySem.W.mg_of X G g_InvalidPlan, ⟨eg_InvalidPlan, ek_InvalidPlan, sb_InvalidPlan, eh_InvalidPlan, ea_InvalidPlan, en0, et0, em_InvalidPlan⟩, .inl ⟨PySem.W.mg_of X G g_InvalidPlan, _, rfl⟩, ki_InvalidPlan_InvalidPlan⟩
    · exact ⟨_, _, PySem.W.mg_of X G g_InvalidPlan, ⟨eg_InvalidPlan, ek_InvalidPlan, sb_InvalidPlan, eh_InvalidPlan, ea_InvalidPlan, en0, et0, em_InvalidPlan⟩, .inl ⟨PySem.W.mg_of X G g_InvalidPlayer, _, rfl⟩, ki_InvalidPlan_InvalidPlayer⟩
    · exact ⟨_, _, PySem.W.mg_of X G g_InvalidPlan, ⟨eg_InvalidPlan, ek_InvalidPlan, sb_InvalidPlan, eh_InvalidPlan, ea_InvalidPlan, en0, et0, em_InvalidPlan⟩, .inl ⟨PySem.W.mg_of X G g_InvalidRoad, _, rfl⟩, ki_InvalidPlan_InvalidRoad⟩
    · exact ⟨_, _, PySem.W.mg_of X G g_InvalidPlan, ⟨eg_InvalidPlan, ek_InvalidPlan, sb_InvalidPlan, eh_InvalidPlan, ea_InvalidPlan, en0, et0, em_InvalidPlan⟩, .inl ⟨PySem.W.mg_of X G g_InvalidSign, _, rfl⟩, ki_InvalidPlan_InvalidSign⟩
    · exact ⟨_, _, PySem.W.mg_of X G g_InvalidPlan, ⟨eg_InvalidPlan, ek_InvalidPlan, sb_InvalidPlan, eh_InvalidPlan, ea_InvalidPlan, en0, et0, em_InvalidPlan⟩, .inl ⟨PySem.W.mg_of X G g_InvalidStretch, _, rfl⟩, ki_InvalidPlan_InvalidStretch⟩
    · exact ⟨_, _, PySem.W.mg_of X G g_InvalidPlan, ⟨eg_InvalidPlan, ek_InvalidPlan, sb_InvalidPlan, eh_InvalidPlan, ea_InvalidPlan, en0, et0, em_InvalidPlan⟩, .inl ⟨PySem.W.mg_of X G g_InvalidText, _, rfl⟩, ki_InvalidPlan_InvalidText⟩
    · exact ⟨_, _, PySem.W.mg_of X G g_InvalidPlan, ⟨eg_InvalidPlan, ek_InvalidPlan, sb_InvalidPlan, eh_InvalidPlan, ea_InvalidPlan, en0, et0, em_InvalidPlan⟩, .inl ⟨PySem.W.mg_of X G g_InvalidWay, _, rfl⟩, ki_InvalidPlan_InvalidWay⟩
    · exact ⟨_, _, PySem.W.mg_of X G g_InvalidPlan, ⟨eg_InvalidPlan, ek_InvalidPlan, sb_InvalidPlan, eh_InvalidPlan, ea_InvalidPlan, en0, et0, em_InvalidPlan⟩, .inl ⟨PySem.W.mg_of X G g_NothingToUndo, _, rfl⟩, ki_InvalidPlan_NothingToUndo⟩
    · exact ⟨_, _, PySem.W.mg_of X G g_InvalidPlan, ⟨eg_InvalidPlan, ek_InvalidPlan, sb_InvalidPlan, eh_InvalidPlan, ea_InvalidPlan, en0, et0, em_InvalidPlan⟩, .inl ⟨PySem.W.mg_of X G g_RoadError, _, rfl⟩, ki_InvalidPlan_RoadError⟩
    · exact ⟨_, _, PySem.W.mg_of X G g_InvalidPlan, ⟨eg_InvalidPlan, ek_InvalidPlan, sb_InvalidPlan, eh_InvalidPlan, ea_InvalidPlan, en0, et0, em_InvalidPlan⟩, .inl ⟨PySem.W.mg_of X G g_TooMany, _, rfl⟩, ki_InvalidPlan_TooMany⟩
    · exact ⟨_, _, PySem.W.mg_of X G g_InvalidPlan, ⟨eg_InvalidPlan, ek_InvalidPlan, sb_InvalidPlan, eh_InvalidPlan, ea_InvalidPlan, en0, et0, em_InvalidPlan⟩, .inr ⟨PySem.W.mg_none_of X G zy_ValueError, by decide +kernel, rfl⟩, ki_InvalidPlan_ValueError⟩
  have hisx_InvalidPlayer : XK ⟨l.prog, w, K, mg, []⟩ is_InvalidPlayer := by
    intro p hp
    simp only [is_InvalidPlayer, List.mem_cons, List.not_mem_nil, or_false] at hp
    rcases hp with rfl | rfl | rfl | rfl | rfl | rfl | rfl | rfl | rfl | rfl | rfl | rfl | rfl | rfl | rfl
    · exact ⟨_, _, PySem.W.mg_of X G g_InvalidPlayer, ⟨eg_InvalidPlayer, ek_InvalidPlayer, sb_InvalidPlayer, eh_InvalidPlayer, ea_InvalidPlayer, en0, et0, em_InvalidPlayer⟩, .inl ⟨PySem.W.mg_of X G g_Failed, _, rfl⟩, ki_InvalidPlayer_Failed⟩
    · exact ⟨_, _, PySem.W.mg_of X G g_InvalidPlayer, ⟨eg_InvalidPlayer, ek_InvalidPlayer, sb_InvalidPlayer, eh_InvalidPlayer, ea_InvalidPlayer, en0, et0, em_InvalidPlayer⟩, .inl ⟨PySem.W.mg_of X G g_InvalidKinds, _, rfl⟩, ki_InvalidPlayer_InvalidKinds⟩
    · exact ⟨_, _, PySem.W.mg_of X G g_InvalidPlayer, ⟨eg_InvalidPlayer, ek_InvalidPlayer, sb_InvalidPlayer, eh_InvalidPlayer, ea_InvalidPlayer, en0, et0, em_InvalidPlayer⟩, .inl ⟨PySem.W.mg_of X G g_InvalidNumber, _, rfl⟩, ki_InvalidPlayer_InvalidNumber⟩
    · exact ⟨_, _, PySem.W.mg_of X G g_InvalidPlayer, ⟨eg_InvalidPlayer, ek_InvalidPlayer, sb_InvalidPlayer, eh_InvalidPlayer, ea_InvalidPlayer, en0, et0, em_InvalidPlayer⟩, .inl ⟨PySem.W.mg_of X G g_InvalidPlace, _, rfl⟩, ki_InvalidPlayer_InvalidPlace⟩
    · exact ⟨_, _, PySem.W.mg_of X G g_InvalidPlayer, ⟨eg_InvalidPlayer, ek_InvalidPlayer, sb_InvalidPlayer, eh_InvalidPlayer, ea_InvalidPlayer, en0, et0, em_InvalidPlayer⟩, .inl ⟨PySem.W.mg_of X G g_InvalidPlan, _, rfl⟩, ki_InvalidPlayer_InvalidPlan⟩
    · exact ⟨_, _, PySem.W.mg_of X G g_InvalidPlayer, ⟨eg_InvalidPlayer, ek_InvalidPlayer, sb_InvalidPlayer, eh_InvalidPlayer, ea_InvalidPlayer, en0, et0, em_InvalidPlayer⟩, .inl ⟨PySem.W.mg_of X G g_InvalidPlayer, _, rfl⟩, ki_InvalidPlayer_InvalidPlayer⟩
    · exact ⟨_, _, PySem.W.mg_of X G g_InvalidPlayer, ⟨eg_InvalidPlayer, ek_InvalidPlayer, sb_InvalidPlayer, eh_InvalidPlayer, ea_InvalidPlayer, en0, et0, em_InvalidPlayer⟩, .inl ⟨PySem.W.mg_of X G g_InvalidRoad, _, rfl⟩, ki_InvalidPlayer_InvalidRoad⟩
    · exact ⟨_, _, PySem.W.mg_of X G g_InvalidPlayer, ⟨eg_InvalidPlayer, ek_InvalidPlayer, sb_InvalidPlayer, eh_InvalidPlayer, ea_InvalidPlayer, en0, et0, em_InvalidPlayer⟩, .inl ⟨PySem.W.mg_of X G g_InvalidSign, _, rfl⟩, ki_InvalidPlayer_InvalidSign⟩
    · exact ⟨_, _, PySem.W.mg_of X G g_InvalidPlayer, ⟨eg_InvalidPlayer, ek_InvalidPlayer, sb_InvalidPlayer, eh_InvalidPlayer, ea_InvalidPlayer, en0, et0, em_InvalidPlayer⟩, .inl ⟨PySem.W.mg_of X G g_InvalidStretch, _, rfl⟩, ki_InvalidPlayer_InvalidStretch⟩
    · exact ⟨_, _, PySem.W.mg_of X G g_InvalidPlayer, ⟨eg_InvalidPlayer, ek_InvalidPlayer, sb_InvalidPlayer, eh_InvalidPlayer, ea_InvalidPlayer, en0, et0, em_InvalidPlayer⟩, .inl ⟨PySem.W.mg_of X G g_InvalidText, _, rfl⟩, ki_InvalidPlayer_InvalidText⟩
    · exact ⟨_, _, PySem.W.mg_of X G g_InvalidPlayer, ⟨eg_InvalidPlayer, ek_InvalidPlayer, sb_InvalidPlayer, eh_InvalidPlayer, ea_InvalidPlayer, en0, et0, em_InvalidPlayer⟩, .inl ⟨PySem.W.mg_of X G g_InvalidWay, _, rfl⟩, ki_InvalidPlayer_InvalidWay⟩
    · exact ⟨_, _, PySem.W.mg_of X G g_InvalidPlayer, ⟨eg_InvalidPlayer, ek_InvalidPlayer, sb_InvalidPlayer, eh_InvalidPlayer, ea_InvalidPlayer, en0, et0, em_InvalidPlayer⟩, .inl ⟨PySem.W.mg_of X G g_NothingToUndo, _, rfl⟩, ki_InvalidPlayer_NothingToUndo⟩
    · exact ⟨_, _, PySem.W.mg_of X G g_InvalidPlayer, ⟨eg_InvalidPlayer, ek_InvalidPlayer, sb_InvalidPlayer, eh_InvalidPlayer, ea_InvalidPlayer, en0, et0, em_InvalidPlayer⟩, .inl ⟨PySem.W.mg_of X G g_RoadError, _, rfl⟩, ki_InvalidPlayer_RoadError⟩
    · exact ⟨_, _, PySem.W.mg_of X G g_InvalidPlayer, ⟨eg_InvalidPlayer, ek_InvalidPlayer, sb_InvalidPlayer, eh_InvalidPlayer, ea_InvalidPlayer, en0, et0, em_InvalidPlayer⟩, .inl ⟨PySem.W.mg_of X G g_TooMany, _, rfl⟩, ki_InvalidPlayer_TooMany⟩
    · exact ⟨_, _, PySem.W.mg_of X G g_InvalidPlayer, ⟨eg_InvalidPlayer, ek_InvalidPlayer, sb_InvalidPlayer, eh_InvalidPlayer, ea_InvalidPlayer, en0, et0, em_InvalidPlayer⟩, .inr ⟨PySem.W.mg_none_of X G zy_ValueError, by decide +kernel, rfl⟩, ki_InvalidPlayer_ValueError⟩
  have hisx_InvalidRoad : XK ⟨l.prog, w, K, mg, []⟩ is_InvalidRoad := by
    intro p hp
    simp only [is_InvalidRoad, List.mem_cons, List.not_mem_nil, or_false] at hp
    rcases hp with rfl | rfl | rfl | rfl | rfl | rfl | rfl | rfl | rfl | rfl | rfl | rfl | rfl | rfl | rfl
    · exact ⟨_, _, PySem.W.mg_of X G g_InvalidRoad, ⟨eg_InvalidRoad, ek_InvalidRoad, sb_InvalidRoad, eh_InvalidRoad, ea_InvalidRoad, en0, et0, em_InvalidRoad⟩, .inl ⟨PySem.W.mg_of X G g_Failed, _, rfl⟩, ki_InvalidRoad_Failed⟩
    · exact ⟨_, _, PySem.W.mg_of X G g_InvalidRoad, ⟨eg_InvalidRoad, ek_InvalidRoad, sb_InvalidRoad, eh_InvalidRoad, ea_InvalidRoad, en0, et0, em_InvalidRoad⟩, .inl ⟨PySem.W.mg_of X G g_InvalidKinds, _, rfl⟩, ki_InvalidRoad_InvalidKinds⟩
    · exact ⟨_, _, PySem.W.mg_of X G g_InvalidRoad, ⟨eg_InvalidRoad, ek_InvalidRoad, sb_InvalidRoad, eh_InvalidRoad, ea_InvalidRoad, en0, et0, em_InvalidRoad⟩, .inl ⟨PySem.W.mg_of X G g_InvalidNumber, _, rfl⟩, ki_InvalidRoad_InvalidNumber⟩
    · exact ⟨_, _, PySem.W.mg_of X G g_InvalidRoad, ⟨eg_InvalidRoad, ek_InvalidRoad, sb_InvalidRoad, eh_InvalidRoad, ea_InvalidRoad, en0, et0, em_InvalidRoad⟩, .inl ⟨PySem.W.mg_of X G g_InvalidPlace, _, rfl⟩, ki_InvalidRoad_InvalidPlace⟩
    · exact ⟨_, _, PySem.W.mg_of X G g_InvalidRoad, ⟨eg_InvalidRoad, ek_InvalidRoad, sb_InvalidRoad, eh_InvalidRoad, ea_InvalidRoad, en0, et0, em_InvalidRoad⟩, .inl ⟨PySem.W.mg_of X G g_InvalidPlan, _, rfl⟩, ki_InvalidRoad_InvalidPlan⟩
    · exact ⟨_, _, PySem.W.mg_of X G g_InvalidRoad, ⟨eg_InvalidRoad, ek_InvalidRoad, sb_InvalidRoad, eh_InvalidRoad, ea_InvalidRoad, en0, et0, em_InvalidRoad⟩, .inl ⟨PySem.W.mg_of X G g_InvalidPlayer, _, rfl⟩, ki_InvalidRoad_InvalidPlayer⟩
    · exact ⟨_, _, PySem.W.mg_of X G g_InvalidRoad, ⟨eg_InvalidRoad, ek_InvalidRoad, sb_InvalidRoad, eh_InvalidRoad, ea_InvalidRoad, en0, et0, em_InvalidRoad⟩, .inl ⟨PySem.W.mg_of X G g_InvalidRoad, _, rfl⟩, ki_InvalidRoad_InvalidRoad⟩
    · exact ⟨_, _, PySem.W.mg_of X G g_InvalidRoad, ⟨eg_InvalidRoad, ek_InvalidRoad, sb_InvalidRoad, eh_InvalidRoad, ea_InvalidRoad, en0, et0, em_InvalidRoad⟩, .inl ⟨PySem.W.mg_of X G g_InvalidSign, _, rfl⟩, ki_InvalidRoad_InvalidSign⟩
    · exact ⟨_, _, PySem.W.mg_of X G g_InvalidRoad, ⟨eg_InvalidRoad, ek_InvalidRoad, sb_InvalidRoad, eh_InvalidRoad, ea_InvalidRoad, en0, et0, em_InvalidRoad⟩, .inl ⟨PySem.W.mg_of X G g_InvalidStretch, _, rfl⟩, ki_InvalidRoad_InvalidStretch⟩
    · exact ⟨_, _, PySem.W.mg_of X G g_InvalidRoad, ⟨eg_InvalidRoad, ek_InvalidRoad, sb_InvalidRoad, eh_InvalidRoad, ea_InvalidRoad, en0, et0, em_InvalidRoad⟩, .inl ⟨PySem.W.mg_of X G g_InvalidText, _, rfl⟩, ki_InvalidRoad_InvalidText⟩
    · exact ⟨_, _, PySem.W.mg_of X G g_InvalidRoad, ⟨eg_InvalidRoad, ek_InvalidRoad, sb_InvalidRoad, eh_InvalidRoad, ea_InvalidRoad, en0, et0, em_InvalidRoad⟩, .inl ⟨PySem.W.mg_of X G g_InvalidWay, _, rfl⟩, ki_InvalidRoad_InvalidWay⟩
    · exact ⟨_, _, PySem.W.mg_of X G g_InvalidRoad, ⟨eg_InvalidRoad, ek_InvalidRoad, sb_InvalidRoad, eh_InvalidRoad, ea_InvalidRoad, en0, et0, em_InvalidRoad⟩, .inl ⟨PySem.W.mg_of X G g_NothingToUndo, _, rfl⟩, ki_InvalidRoad_NothingToUndo⟩
    · exact ⟨_, _, PySem.W.mg_of X G g_InvalidRoad, ⟨eg_InvalidRoad, ek_InvalidRoad, sb_InvalidRoad, eh_InvalidRoad, ea_InvalidRoad, en0, et0, em_InvalidRoad⟩, .inl ⟨PySem.W.mg_of X G g_RoadError, _, rfl⟩, ki_InvalidRoad_RoadError⟩
    · exact ⟨_, _, PySem.W.mg_of X G g_InvalidRoad, ⟨eg_InvalidRoad, ek_InvalidRoad, sb_InvalidRoad, eh_InvalidRoad, ea_InvalidRoad, en0, et0, em_InvalidRoad⟩, .inl ⟨PySem.W.mg_of X G g_TooMany, _, rfl⟩, ki_InvalidRoad_TooMany⟩
    · exact ⟨_, _, PySem.W.mg_of X G g_InvalidRoad, ⟨eg_InvalidRoad, ek_InvalidRoad, sb_InvalidRoad, eh_InvalidRoad, ea_InvalidRoad, en0, et0, em_InvalidRoad⟩, .inr ⟨PySem.W.mg_none_of X G zy_ValueError, by decide +kernel, rfl⟩, ki_InvalidRoad_ValueError⟩
  have hisx_InvalidSign : XK ⟨l.prog, w, K, mg, []⟩ is_InvalidSign := by
    intro p hp
    simp only [is_InvalidSign, List.mem_cons, List.not_mem_nil, or_false] at hp
    rcases hp with rfl | rfl | rfl | rfl | rfl | rfl | rfl | rfl | rfl | rfl | rfl | rfl | rfl | rfl | rfl
    · exact ⟨_, _, PySem.W.mg_of X G g_InvalidSign, ⟨eg_InvalidSign, ek_InvalidSign, sb_InvalidSign, eh_InvalidSign, ea_InvalidSign, en0, et0, em_InvalidSign⟩, .inl ⟨PySem.W.mg_of X G g_Failed, _, rfl⟩, ki_InvalidSign_Failed⟩
    · exact ⟨_, _, PySem.W.mg_of X G g_InvalidSign, ⟨eg_InvalidSign, ek_InvalidSign, sb_InvalidSign, eh_InvalidSign, ea_InvalidSign, en0, et0, em_InvalidSign⟩, .inl ⟨PySem.W.mg_of X G g_InvalidKinds, _, rfl⟩, ki_InvalidSign_InvalidKinds⟩
    · exact ⟨_, _, PySem.W.mg_of X G g_InvalidSign, ⟨eg_InvalidSign, ek_InvalidSign, sb_InvalidSign, eh_InvalidSign, ea_InvalidSign, en0, et0, em_InvalidSign⟩, .inl ⟨PySem.W.mg_of X G g_InvalidNumber, _, rfl⟩, ki_InvalidSign_InvalidNumber⟩
    · exact ⟨_, _, PySem.W.mg_of X G g_InvalidSign, ⟨eg_InvalidSign, ek_InvalidSign, sb_InvalidSign, eh_InvalidSign, ea_InvalidSign, en0, et0, em_InvalidSign⟩, .inl ⟨PySem.W.mg_of X G g_InvalidPlace, _, rfl⟩, ki_InvalidSign_InvalidPlace⟩
    · exact ⟨_, _, PySem.W.mg_of X G g_InvalidSign, ⟨eg_InvalidSign, ek_InvalidSign, sb_InvalidSign, eh_InvalidSign, ea_InvalidSign, en0, et0, em_InvalidSign⟩, .inl ⟨PySem.W.mg_of X G g_InvalidPlan, _, rfl⟩, ki_InvalidSign_InvalidPlan⟩
    · exact ⟨_, _, PySem.W.mg_of X G g_InvalidSign, ⟨eg_InvalidSign, ek_InvalidSign, sb_InvalidSign, eh_InvalidSign, ea_InvalidSign, en0, et0, em_InvalidSign⟩, .inl ⟨PySem.W.mg_of X G g_InvalidPlayer, _, rfl⟩, ki_InvalidSign_InvalidPlayer⟩
    · exact ⟨_, _, PySem.W.mg_of X G g_InvalidSign, ⟨eg_InvalidSign, ek_InvalidSign, sb_InvalidSign, eh_InvalidSign, ea_InvalidSign, en0, et0, em_InvalidSign⟩, .inl ⟨PySem.W.mg_of X G g_InvalidRoad, _, rfl⟩, ki_InvalidSign_InvalidRoad⟩
    · exact ⟨_, _, PySem.W.mg_of X G g_InvalidSign, ⟨eg_InvalidSign, ek_InvalidSign, sb_InvalidSign, eh_InvalidSign, ea_InvalidSign, en0, et0, em_InvalidSign⟩, .inl ⟨PySem.W.mg_of X G g_InvalidSign, _, rfl⟩, ki_InvalidSign_InvalidSign⟩
    · exact ⟨_, _, PySem.W.mg_of X G g_InvalidSign, ⟨eg_InvalidSign, ek_InvalidSign, sb_InvalidSign, eh_InvalidSign, ea_InvalidSign, en0, et0, em_InvalidSign⟩, .inl ⟨PySem.W.mg_of X G g_InvalidStretch, _, rfl⟩, ki_InvalidSign_InvalidStretch⟩
    · exact ⟨_, _, PySem.W.mg_of X G g_InvalidSign, ⟨eg_InvalidSign, ek_InvalidSign, sb_InvalidSign, eh_InvalidSign, ea_InvalidSign, en0, et0, em_InvalidSign⟩, .inl ⟨PySem.W.mg_of X G g_InvalidText, _, rfl⟩, ki_InvalidSign_InvalidText⟩
    · exact ⟨_, _, PySem.W.mg_of X G g_InvalidSign, ⟨eg_InvalidSign, ek_InvalidSign, sb_InvalidSign, eh_InvalidSign, ea_InvalidSign, en0, et0, em_InvalidSign⟩, .inl ⟨PySem.W.mg_of X G g_InvalidWay, _, rfl⟩, ki_InvalidSign_InvalidWay⟩
    · exact ⟨_, _, PySem.W.mg_of X G g_InvalidSign, ⟨eg_InvalidSign, ek_InvalidSign, sb_InvalidSign, eh_InvalidSign, ea_InvalidSign, en0, et0, em_InvalidSign⟩, .inl ⟨PySem.W.mg_of X G g_NothingToUndo, _, rfl⟩, ki_InvalidSign_NothingToUndo⟩
    · exact ⟨_, _, PySem.W.mg_of X G g_InvalidSign, ⟨eg_InvalidSign, ek_InvalidSign, sb_InvalidSign, eh_InvalidSign, ea_InvalidSign, en0, et0, em_InvalidSign⟩, .inl ⟨PySem.W.mg_of X G g_RoadError, _, rfl⟩, ki_InvalidSign_RoadError⟩
    · exact ⟨_, _, PySem.W.mg_of X G g_InvalidSign, ⟨eg_InvalidSign, ek_InvalidSign, sb_InvalidSign, eh_InvalidSign, ea_InvalidSign, en0, et0, em_InvalidSign⟩, .inl ⟨PySem.W.mg_of X G g_TooMany, _, rfl⟩, ki_InvalidSign_TooMany⟩
    · exact ⟨_, _, PySem.W.mg_of X G g_InvalidSign, ⟨eg_InvalidSign, ek_InvalidSign, sb_InvalidSign, eh_InvalidSign, ea_InvalidSign, en0, et0, em_InvalidSign⟩, .inr ⟨PySem.W.mg_none_of X G zy_ValueError, by decide +kernel, rfl⟩, ki_InvalidSign_ValueError⟩
  have hisx_InvalidStretch : XK ⟨l.prog, w, K, mg, []⟩ is_InvalidStretch := by
    intro p hp
    simp only [is_InvalidStretch, List.mem_cons, List.not_mem_nil, or_false] at hp
    rcases hp with rfl | rfl | rfl | rfl | rfl | rfl | rfl | rfl | rfl | rfl | rfl | rfl | rfl | rfl | rfl
    · exact ⟨_, _, PySem.W.mg_of X G g_InvalidStretch, ⟨eg_InvalidStretch, ek_InvalidStretch, sb_InvalidStretch, eh_InvalidStretch, ea_InvalidStretch, en0, et0, em_InvalidStretch⟩, .inl ⟨PySem.W.mg_of X G g_Failed, _, rfl⟩, ki_InvalidStretch_Failed⟩
    · exact ⟨_, _, PySem.W.mg_of X G g_InvalidStretch, ⟨eg_InvalidStretch, ek_InvalidStretch, sb_InvalidStretch, eh_InvalidStretch, ea_InvalidStretch, en0, et0, em_InvalidStretch⟩, .inl ⟨PySem.W.mg_of X G g_InvalidKinds, _, rfl⟩, ki_InvalidStretch_InvalidKinds⟩
    · exact ⟨_, _, PySem.W.mg_of X G g_InvalidStretch, ⟨eg_InvalidStretch, ek_InvalidStretch, sb_InvalidStretch, eh_InvalidStretch, ea_InvalidStretch, en0, et0, em_InvalidStretch⟩, .inl ⟨PySem.W.mg_of X G g_InvalidNumber, _, rfl⟩, ki_InvalidStretch_InvalidNumber⟩
    · exact ⟨_, _, PySem.W.mg_of X G g_InvalidStretch, ⟨eg_InvalidStretch, ek_InvalidStretch, sb_InvalidStretch, eh_InvalidStretch, ea_InvalidStretch, en0, et0, em_InvalidStretch⟩, .inl ⟨PySem.W.mg_of X G g_InvalidPlace, _, rfl⟩, ki_InvalidStretch_InvalidPlace⟩
    · exact ⟨_, _, PySem.W.mg_of X G g_InvalidStretch, ⟨eg_InvalidStretch, ek_InvalidStretch, sb_InvalidStretch, eh_InvalidStretch, ea_InvalidStretch, en0, et0, em_InvalidStretch⟩, .inl ⟨PySem.W.mg_of X G g_InvalidPlan, _, rfl⟩, ki_InvalidStretch_InvalidPlan⟩
    · exact ⟨_, _, PySem.W.mg_of X G g_InvalidStretch, ⟨eg_InvalidStretch, ek_InvalidStretch, sb_InvalidStretch, eh_InvalidStretch, ea_InvalidStretch, en0, et0, em_InvalidStretch⟩, .inl ⟨PySem.W.mg_of X G g_InvalidPlayer, _, rfl⟩, ki_InvalidStretch_InvalidPlayer⟩
    · exact ⟨_, _, PySem.W.mg_of X G g_InvalidStretch, ⟨eg_InvalidStretch, ek_InvalidStretch, sb_InvalidStretch, eh_InvalidStretch, ea_InvalidStretch, en0, et0, em_InvalidStretch⟩, .inl ⟨PySem.W.mg_of X G g_InvalidRoad, _, rfl⟩, ki_InvalidStretch_InvalidRoad⟩
    · exact ⟨_, _, PySem.W.mg_of X G g_InvalidStretch, ⟨eg_InvalidStretch, ek_InvalidStretch, sb_InvalidStretch, eh_InvalidStretch, ea_InvalidStretch, en0, et0, em_InvalidStretch⟩, .inl ⟨PySem.W.mg_of X G g_InvalidSign, _, rfl⟩, ki_InvalidStretch_InvalidSign⟩
    · exact ⟨_, _, PySem.W.mg_of X G g_InvalidStretch, ⟨eg_InvalidStretch, ek_InvalidStretch, sb_InvalidStretch, eh_InvalidStretch, ea_InvalidStretch, en0, et0, em_InvalidStretch⟩, .inl ⟨PySem.W.mg_of X G g_InvalidStretch, _, rfl⟩, ki_InvalidStretch_InvalidStretch⟩
    · exact ⟨_, _, PySem.W.mg_of X G g_InvalidStretch, ⟨eg_InvalidStretch, ek_InvalidStretch, sb_InvalidStretch, eh_InvalidStretch, ea_InvalidStretch, en0, et0, em_InvalidStretch⟩, .inl ⟨PySem.W.mg_of X G g_InvalidText, _, rfl⟩, ki_InvalidStretch_InvalidText⟩
    · exact ⟨_, _, PySem.W.mg_of X G g_InvalidStretch, ⟨eg_InvalidStretch, ek_InvalidStretch, sb_InvalidStretch, eh_InvalidStretch, ea_InvalidStretch, en0, et0, em_InvalidStretch⟩, .inl ⟨PySem.W.mg_of X G g_InvalidWay, _, rfl⟩, ki_InvalidStretch_InvalidWay⟩
    · exact ⟨_, _, PySem.W.mg_of X G g_InvalidStretch, ⟨eg_InvalidStretch, ek_InvalidStretch, sb_InvalidStretch, eh_InvalidStretch, ea_InvalidStretch, en0, et0, em_InvalidStretch⟩, .inl ⟨PySem.W.mg_of X G g_NothingToUndo, _, rfl⟩, ki_InvalidStretch_NothingToUndo⟩
    · exact ⟨_, _, PySem.W.mg_of X G g_InvalidStretch, ⟨eg_InvalidStretch, ek_InvalidStretch, sb_InvalidStretch, eh_InvalidStretch, ea_InvalidStretch, en0, et0, em_InvalidStretch⟩, .inl ⟨PySem.W.mg_of X G g_RoadError, _, rfl⟩, ki_InvalidStretch_RoadError⟩
    · exact ⟨_, _, PySem.W.mg_of X G g_InvalidStretch, ⟨eg_InvalidStretch, ek_InvalidStretch, sb_InvalidStretch, eh_InvalidStretch, ea_InvalidStretch, en0, et0, em_InvalidStretch⟩, .inl ⟨PySem.W.mg_of X G g_TooMany, _, rfl⟩, ki_InvalidStretch_TooMany⟩
    · exact ⟨_, _, PySem.W.mg_of X G g_InvalidStretch, ⟨eg_InvalidStretch, ek_InvalidStretch, sb_InvalidStretch, eh_InvalidStretch, ea_InvalidStretch, en0, et0, em_InvalidStretch⟩, .inr ⟨PySem.W.mg_none_of X G zy_ValueError, by decide +kernel, rfl⟩, ki_InvalidStretch_ValueError⟩
  have hisx_InvalidText : XK ⟨l.prog, w, K, mg, []⟩ is_InvalidText := by
    intro p hp
    simp only [is_InvalidText, List.mem_cons, List.not_mem_nil, or_false] at hp
    rcases hp with rfl | rfl | rfl | rfl | rfl | rfl | rfl | rfl | rfl | rfl | rfl | rfl | rfl | rfl | rfl
    · exact ⟨_, _, PySem.W.mg_of X G g_InvalidText, ⟨eg_InvalidText, ek_InvalidText, sb_InvalidText, eh_InvalidText, ea_InvalidText, en0, et0, em_InvalidText⟩, .inl ⟨PySem.W.mg_of X G g_Failed, _, rfl⟩, ki_InvalidText_Failed⟩
    · exact ⟨_, _, PySem.W.mg_of X G g_InvalidText, ⟨eg_InvalidText, ek_InvalidText, sb_InvalidText, eh_InvalidText, ea_InvalidText, en0, et0, em_InvalidText⟩, .inl ⟨PySem.W.mg_of X G g_InvalidKinds, _, rfl⟩, ki_InvalidText_InvalidKinds⟩
    · exact ⟨_, _, PySem.W.mg_of X G g_InvalidText, ⟨eg_InvalidText, ek_InvalidText, sb_InvalidText, eh_InvalidText, ea_InvalidText, en0, et0, em_InvalidText⟩, .inl ⟨PySem.W.mg_of X G g_InvalidNumber, _, rfl⟩, ki_InvalidText_InvalidNumber⟩
    · exact ⟨_, _, PySem.W.mg_of X G g_InvalidText, ⟨eg_InvalidText, ek_InvalidText, sb_InvalidText, eh_InvalidText, ea_InvalidText, en0, et0, em_InvalidText⟩, .inl ⟨PySem.W.mg_of X G g_InvalidPlace, _, rfl⟩, ki_InvalidText_InvalidPlace⟩
    · exact ⟨_, _, PySem.W.mg_of X G g_InvalidText, ⟨eg_InvalidText, ek_InvalidText, sb_InvalidText, eh_InvalidText, ea_InvalidText, en0, et0, em_InvalidText⟩, .inl ⟨PySem.W.mg_of X G g_InvalidPlan, _, rfl⟩, ki_InvalidText_InvalidPlan⟩
    · exact ⟨_, _, PySem.W.mg_of X G g_InvalidText, ⟨eg_InvalidText, ek_InvalidText, sb_InvalidText, eh_InvalidText, ea_InvalidText, en0, et0, em_InvalidText⟩, .inl ⟨PySem.W.mg_of X G g_InvalidPlayer, _, rfl⟩, ki_InvalidText_InvalidPlayer⟩
    · exact ⟨_, _, PySem.W.mg_of X G g_InvalidText, ⟨eg_InvalidText, ek_InvalidText, sb_InvalidText, eh_InvalidText, ea_InvalidText, en0, et0, em_InvalidText⟩, .inl ⟨PySem.W.mg_of X G g_InvalidRoad, _, rfl⟩, ki_InvalidText_InvalidRoad⟩
    · exact ⟨_, _, PySem.W.mg_of X G g_InvalidText, ⟨eg_InvalidText, ek_InvalidText, sb_InvalidText, eh_InvalidText, ea_InvalidText, en0, et0, em_InvalidText⟩, .inl ⟨PySem.W.mg_of X G g_InvalidSign, _, rfl⟩, ki_InvalidText_InvalidSign⟩
    · exact ⟨_, _, PySem.W.mg_of X G g_InvalidText, ⟨eg_InvalidText, ek_InvalidText, sb_InvalidText, eh_InvalidText, ea_InvalidText, en0, et0, em_InvalidText⟩, .inl ⟨PySem.W.mg_of X G g_InvalidStretch, _, rfl⟩, ki_InvalidText_InvalidStretch⟩
    · exact ⟨_, _, PySem.W.mg_of X G g_InvalidText, ⟨eg_InvalidText, ek_InvalidText, sb_InvalidText, eh_InvalidText, ea_InvalidText, en0, et0, em_InvalidText⟩, .inl ⟨PySem.W.mg_of X G g_InvalidText, _, rfl⟩, ki_InvalidText_InvalidText⟩
    · exact ⟨_, _, PySem.W.mg_of X G g_InvalidText, ⟨eg_InvalidText, ek_InvalidText, sb_InvalidText, eh_InvalidText, ea_InvalidText, en0, et0, em_InvalidText⟩, .inl ⟨PySem.W.mg_of X G g_InvalidWay, _, rfl⟩, ki_InvalidText_InvalidWay⟩
    · exact ⟨_, _, PySem.W.mg_of X G g_InvalidText, ⟨eg_InvalidText, ek_InvalidText, sb_InvalidText, eh_InvalidText, ea_InvalidText, en0, et0, em_InvalidText⟩, .inl ⟨PySem.W.mg_of X G g_NothingToUndo, _, rfl⟩, ki_InvalidText_NothingToUndo⟩
    · exact ⟨_, _, PySem.W.mg_of X G g_InvalidText, ⟨eg_InvalidText, ek_InvalidText, sb_InvalidText, eh_InvalidText, ea_InvalidText, en0, et0, em_InvalidText⟩, .inl ⟨PySem.W.mg_of X G g_RoadError, _, rfl⟩, ki_InvalidText_RoadError⟩
    · exact ⟨_, _, PySem.W.mg_of X G g_InvalidText, ⟨eg_InvalidText, ek_InvalidText, sb_InvalidText, eh_InvalidText, ea_InvalidText, en0, et0, em_InvalidText⟩, .inl ⟨PySem.W.mg_of X G g_TooMany, _, rfl⟩, ki_InvalidText_TooMany⟩
    · exact ⟨_, _, PySem.W.mg_of X G g_InvalidText, ⟨eg_InvalidText, ek_InvalidText, sb_InvalidText, eh_InvalidText, ea_InvalidText, en0, et0, em_InvalidText⟩, .inr ⟨PySem.W.mg_none_of X G zy_ValueError, by decide +kernel, rfl⟩, ki_InvalidText_ValueError⟩
  have hisx_InvalidWay : XK ⟨l.prog, w, K, mg, []⟩ is_InvalidWay := by
    intro p hp
    simp only [is_InvalidWay, List.mem_cons, List.not_mem_nil, or_false] at hp
    rcases hp with rfl | rfl | rfl | rfl | rfl | rfl | rfl | rfl | rfl | rfl | rfl | rfl | rfl | rfl | rfl
    · exact ⟨_, _, PySem.W.mg_of X G g_InvalidWay, ⟨eg_InvalidWay, ek_InvalidWay, sb_InvalidWay, eh_InvalidWay, ea_InvalidWay, en0, et0, em_InvalidWay⟩, .inl ⟨PySem.W.mg_of X G g_Failed, _, rfl⟩, ki_InvalidWay_Failed⟩
    · exact ⟨_, _, PySem.W.mg_of X G g_InvalidWay, ⟨eg_InvalidWay, ek_InvalidWay, sb_InvalidWay, eh_InvalidWay, ea_InvalidWay, en0, et0, em_InvalidWay⟩, .inl ⟨PySem.W.mg_of X G g_InvalidKinds, _, rfl⟩, ki_InvalidWay_InvalidKinds⟩
    · exact ⟨_, _, PySem.W.mg_of X G g_InvalidWay, ⟨eg_InvalidWay, ek_InvalidWay, sb_InvalidWay, eh_InvalidWay, ea_InvalidWay, en0, et0, em_InvalidWay⟩, .inl ⟨PySem.W.mg_of X G g_InvalidNumber, _, rfl⟩, ki_InvalidWay_InvalidNumber⟩
    · exact ⟨_, _, PySem.W.mg_of X G g_InvalidWay, ⟨eg_InvalidWay, ek_InvalidWay, sb_InvalidWay, eh_InvalidWay, ea_InvalidWay, en0, et0, em_InvalidWay⟩, .inl ⟨PySem.W.mg_of X G g_InvalidPlace, _, rfl⟩, ki_InvalidWay_InvalidPlace⟩
    · exact ⟨_, _, PySem.W.mg_of X G g_InvalidWay, ⟨eg_InvalidWay, ek_InvalidWay, sb_InvalidWay, eh_InvalidWay, ea_InvalidWay, en0, et0, em_InvalidWay⟩, .inl ⟨PySem.W.mg_of X G g_InvalidPlan, _, rfl⟩, ki_InvalidWay_InvalidPlan⟩
    · exact ⟨_, _, PySem.W.mg_of X G g_InvalidWay, ⟨eg_InvalidWay, ek_InvalidWay, sb_InvalidWay, eh_InvalidWay, ea_InvalidWay, en0, et0, em_InvalidWay⟩, .inl ⟨PySem.W.mg_of X G g_InvalidPlayer, _, rfl⟩, ki_InvalidWay_InvalidPlayer⟩
    · exact ⟨_, _, PySem.W.mg_of X G g_InvalidWay, ⟨eg_InvalidWay, ek_InvalidWay, sb_InvalidWay, eh_InvalidWay, ea_InvalidWay, en0, et0, em_InvalidWay⟩, .inl ⟨PySem.W.mg_of X G g_InvalidRoad, _, rfl⟩, ki_InvalidWay_InvalidRoad⟩
    · exact ⟨_, _, PySem.W.mg_of X G g_InvalidWay, ⟨eg_InvalidWay, ek_InvalidWay, sb_InvalidWay, eh_InvalidWay, ea_InvalidWay, en0, et0, em_InvalidWay⟩, .inl ⟨PySem.W.mg_of X G g_InvalidSign, _, rfl⟩, ki_InvalidWay_InvalidSign⟩
    · exact ⟨_, _, PySem.W.mg_of X G g_InvalidWay, ⟨eg_InvalidWay, ek_InvalidWay, sb_InvalidWay, eh_InvalidWay, ea_InvalidWay, en0, et0, em_InvalidWay⟩, .inl ⟨PySem.W.mg_of X G g_InvalidStretch, _, rfl⟩, ki_InvalidWay_InvalidStretch⟩
    · exact ⟨_, _, PySem.W.mg_of X G g_InvalidWay, ⟨eg_InvalidWay, ek_InvalidWay, sb_InvalidWay, eh_InvalidWay, ea_InvalidWay, en0, et0, em_InvalidWay⟩, .inl ⟨PySem.W.mg_of X G g_InvalidText, _, rfl⟩, ki_InvalidWay_InvalidText⟩
    · exact ⟨_, _, PySem.W.mg_of X G g_InvalidWay, ⟨eg_InvalidWay, ek_InvalidWay, sb_InvalidWay, eh_InvalidWay, ea_InvalidWay, en0, et0, em_InvalidWay⟩, .inl ⟨PySem.W.mg_of X G g_InvalidWay, _, rfl⟩, ki_InvalidWay_InvalidWay⟩
    · exact ⟨_, _, PySem.W.mg_of X G g_InvalidWay, ⟨eg_InvalidWay, ek_InvalidWay, sb_InvalidWay, eh_InvalidWay, ea_InvalidWay, en0, et0, em_InvalidWay⟩, .inl ⟨PySem.W.mg_of X G g_NothingToUndo, _, rfl⟩, ki_InvalidWay_NothingToUndo⟩
    · exact ⟨_, _, PySem.W.mg_of X G g_InvalidWay, ⟨eg_InvalidWay, ek_InvalidWay, sb_InvalidWay, eh_InvalidWay, ea_InvalidWay, en0, et0, em_InvalidWay⟩, .inl ⟨PySem.W.mg_of X G g_RoadError, _, rfl⟩, ki_InvalidWay_RoadError⟩
    · exact ⟨_, _, PySem.W.mg_of X G g_InvalidWay, ⟨eg_InvalidWay, ek_InvalidWay, sb_InvalidWay, eh_InvalidWay, ea_InvalidWay, en0, et0, em_InvalidWay⟩, .inl ⟨PySem.W.mg_of X G g_TooMany, _, rfl⟩, ki_InvalidWay_TooMany⟩
    · exact ⟨_, _, PySem.W.mg_of X G g_InvalidWay, ⟨eg_InvalidWay, ek_InvalidWay, sb_InvalidWay, eh_InvalidWay, ea_InvalidWay, en0, et0, em_InvalidWay⟩, .inr ⟨PySem.W.mg_none_of X G zy_ValueError, by decide +kernel, rfl⟩, ki_InvalidWay_ValueError⟩
  have hisx_NothingToUndo : XK ⟨l.prog, w, K, mg, []⟩ is_NothingToUndo := by
    intro p hp
    simp only [is_NothingToUndo, List.mem_cons, List.not_mem_nil, or_false] at hp
    rcases hp with rfl | rfl | rfl | rfl | rfl | rfl | rfl | rfl | rfl | rfl | rfl | rfl | rfl | rfl | rfl
    · exact ⟨_, _, PySem.W.mg_of X G g_NothingToUndo, ⟨eg_NothingToUndo, ek_NothingToUndo, sb_NothingToUndo, eh_NothingToUndo, ea_NothingToUndo, en0, et0, em_NothingToUndo⟩, .inl ⟨PySem.W.mg_of X G g_Failed, _, rfl⟩, ki_NothingToUndo_Failed⟩
    · exact ⟨_, _, PySem.W.mg_of X G g_NothingToUndo, ⟨eg_NothingToUndo, ek_NothingToUndo, sb_NothingToUndo, eh_NothingToUndo, ea_NothingToUndo, en0, et0, em_NothingToUndo⟩, .inl ⟨PySem.W.mg_of X G g_InvalidKinds, _, rfl⟩, ki_NothingToUndo_InvalidKinds⟩
    · exact ⟨_, _, PySem.W.mg_of X G g_NothingToUndo, ⟨eg_NothingToUndo, ek_NothingToUndo, sb_NothingToUndo, eh_NothingToUndo, ea_NothingToUndo, en0, et0, em_NothingToUndo⟩, .inl ⟨PySem.W.mg_of X G g_InvalidNumber, _, rfl⟩, ki_NothingToUndo_InvalidNumber⟩
    · exact ⟨_, _, PySem.W.mg_of X G g_NothingToUndo, ⟨eg_NothingToUndo, ek_NothingToUndo, sb_NothingToUndo, eh_NothingToUndo, ea_NothingToUndo, en0, et0, em_NothingToUndo⟩, .inl ⟨PySem.W.mg_of X G g_InvalidPlace, _, rfl⟩, ki_NothingToUndo_InvalidPlace⟩
    · exact ⟨_, _, PySem.W.mg_of X G g_NothingToUndo, ⟨eg_NothingToUndo, ek_NothingToUndo, sb_NothingToUndo, eh_NothingToUndo, ea_NothingToUndo, en0, et0, em_NothingToUndo⟩, .inl ⟨PySem.W.mg_of X G g_InvalidPlan, _, rfl⟩, ki_NothingToUndo_InvalidPlan⟩
    · exact ⟨_, _, PySem.W.mg_of X G g_NothingToUndo, ⟨eg_NothingToUndo, ek_NothingToUndo, sb_NothingToUndo, eh_NothingToUndo, ea_NothingToUndo, en0, et0, em_NothingToUndo⟩, .inl ⟨PySem.W.mg_of X G g_InvalidPlayer, _, rfl⟩, ki_NothingToUndo_InvalidPlayer⟩
    · exact ⟨_, _, PySem.W.mg_of X G g_NothingToUndo, ⟨eg_NothingToUndo, ek_NothingToUndo, sb_NothingToUndo, eh_NothingToUndo, ea_NothingToUndo, en0, et0, em_NothingToUndo⟩, .inl ⟨PySem.W.mg_of X G g_InvalidRoad, _, rfl⟩, ki_NothingToUndo_InvalidRoad⟩
    · exact ⟨_, _, PySem.W.mg_of X G g_NothingToUndo, ⟨eg_NothingToUndo, ek_NothingToUndo, sb_NothingToUndo, eh_NothingToUndo, ea_NothingToUndo, en0, et0, em_NothingToUndo⟩, .inl ⟨PySem.W.mg_of X G g_InvalidSign, _, rfl⟩, ki_NothingToUndo_InvalidSign⟩
    · exact ⟨_, _, PySem.W.mg_of X G g_NothingToUndo, ⟨eg_NothingToUndo, ek_NothingToUndo, sb_NothingToUndo, eh_NothingToUndo, ea_NothingToUndo, en0, et0, em_NothingToUndo⟩, .inl ⟨PySem.W.mg_of X G g_InvalidStretch, _, rfl⟩, ki_NothingToUndo_InvalidStretch⟩
    · exact ⟨_, _, PySem.W.mg_of X G g_NothingToUndo, ⟨eg_NothingToUndo, ek_NothingToUndo, sb_NothingToUndo, eh_NothingToUndo, ea_NothingToUndo, en0, et0, em_NothingToUndo⟩, .inl ⟨PySem.W.mg_of X G g_InvalidText, _, rfl⟩, ki_NothingToUndo_InvalidText⟩
    · exact ⟨_, _, PySem.W.mg_of X G g_NothingToUndo, ⟨eg_NothingToUndo, ek_NothingToUndo, sb_NothingToUndo, eh_NothingToUndo, ea_NothingToUndo, en0, et0, em_NothingToUndo⟩, .inl ⟨PySem.W.mg_of X G g_InvalidWay, _, rfl⟩, ki_NothingToUndo_InvalidWay⟩
    · exact ⟨_, _, PySem.W.mg_of X G g_NothingToUndo, ⟨eg_NothingToUndo, ek_NothingToUndo, sb_NothingToUndo, eh_NothingToUndo, ea_NothingToUndo, en0, et0, em_NothingToUndo⟩, .inl ⟨PySem.W.mg_of X G g_NothingToUndo, _, rfl⟩, ki_NothingToUndo_NothingToUndo⟩
    · exact ⟨_, _, PySem.W.mg_of X G g_NothingToUndo, ⟨eg_NothingToUndo, ek_NothingToUndo, sb_NothingToUndo, eh_NothingToUndo, ea_NothingToUndo, en0, et0, em_NothingToUndo⟩, .inl ⟨PySem.W.mg_of X G g_RoadError, _, rfl⟩, ki_NothingToUndo_RoadError⟩
    · exact ⟨_, _, PySem.W.mg_of X G g_NothingToUndo, ⟨eg_NothingToUndo, ek_NothingToUndo, sb_NothingToUndo, eh_NothingToUndo, ea_NothingToUndo, en0, et0, em_NothingToUndo⟩, .inl ⟨PySem.W.mg_of X G g_TooMany, _, rfl⟩, ki_NothingToUndo_TooMany⟩
    · exact ⟨_, _, PySem.W.mg_of X G g_NothingToUndo, ⟨eg_NothingToUndo, ek_NothingToUndo, sb_NothingToUndo, eh_NothingToUndo, ea_NothingToUndo, en0, et0, em_NothingToUndo⟩, .inr ⟨PySem.W.mg_none_of X G zy_ValueError, by decide +kernel, rfl⟩, ki_NothingToUndo_ValueError⟩
  have hisx_RoadError : XK ⟨l.prog, w, K, mg, []⟩ is_RoadError := by
    intro p hp
    simp only [is_RoadError, List.mem_cons, List.not_mem_nil, or_false] at hp
    rcases hp with rfl | rfl | rfl | rfl | rfl | rfl | rfl | rfl | rfl | rfl | rfl | rfl | rfl | rfl | rfl
    · exact ⟨_, _, PySem.W.mg_of X G g_RoadError, ⟨eg_RoadError, ek_RoadError, sb_RoadError, eh_RoadError, ea_RoadError, en0, et0, em_RoadError⟩, .inl ⟨PySem.W.mg_of X G g_Failed, _, rfl⟩, ki_RoadError_Failed⟩
    · exact ⟨_, _, PySem.W.mg_of X G g_RoadError, ⟨eg_RoadError, ek_RoadError, sb_RoadError, eh_RoadError, ea_RoadError, en0, et0, em_RoadError⟩, .inl ⟨PySem.W.mg_of X G g_InvalidKinds, _, rfl⟩, ki_RoadError_InvalidKinds⟩
    · exact ⟨_, _, PySem.W.mg_of X G g_RoadError, ⟨eg_RoadError, ek_RoadError, sb_RoadError, eh_RoadError, ea_RoadError, en0, et0, em_RoadError⟩, .inl ⟨PySem.W.mg_of X G g_InvalidNumber, _, rfl⟩, ki_RoadError_InvalidNumber⟩
    · exact ⟨_, _, PySem.W.mg_of X G g_RoadError, ⟨eg_RoadError, ek_RoadError, sb_RoadError, eh_RoadError, ea_RoadError, en0, et0, em_RoadError⟩, .inl ⟨PySem.W.mg_of X G g_InvalidPlace, _, rfl⟩, ki_RoadError_InvalidPlace⟩
    · exact ⟨_, _, PySem.W.mg_of X G g_RoadError, ⟨eg_RoadError, ek_RoadError, sb_RoadError, eh_RoadError, ea_RoadError, en0, et0, em_RoadError⟩, .inl ⟨PySem.W.mg_of X G g_InvalidPlan, _, rfl⟩, ki_RoadError_InvalidPlan⟩
    · exact ⟨_, _, PySem.W.mg_of X G g_RoadError, ⟨eg_RoadError, ek_RoadError, sb_RoadError, eh_RoadError, ea_RoadError, en0, et0, em_RoadError⟩, .inl ⟨PySem.W.mg_of X G g_InvalidPlayer, _, rfl⟩, ki_RoadError_InvalidPlayer⟩
    · exact ⟨_, _, PySem.W.mg_of X G g_RoadError, ⟨eg_RoadError, ek_RoadError, sb_RoadError, eh_RoadError, ea_RoadError, en0, et0, em_RoadError⟩, .inl ⟨PySem.W.mg_of X G g_InvalidRoad, _, rfl⟩, ki_RoadError_InvalidRoad⟩
    · exact ⟨_, _, PySem.W.mg_of X G g_RoadError, ⟨eg_RoadError, ek_RoadError, sb_RoadError, eh_RoadError, ea_RoadError, en0, et0, em_RoadError⟩, .inl ⟨PySem.W.mg_of X G g_InvalidSign, _, rfl⟩, ki_RoadError_InvalidSign⟩
    · exact ⟨_, _, PySem.W.mg_of X G g_RoadError, ⟨eg_RoadError, ek_RoadError, sb_RoadError, eh_RoadError, ea_RoadError, en0, et0, em_RoadError⟩, .inl ⟨PySem.W.mg_of X G g_InvalidStretch, _, rfl⟩, ki_RoadError_InvalidStretch⟩
    · exact ⟨_, _, PySem.W.mg_of X G g_RoadError, ⟨eg_RoadError, ek_RoadError, sb_RoadError, eh_RoadError, ea_RoadError, en0, et0, em_RoadError⟩, .inl ⟨PySem.W.mg_of X G g_InvalidText, _, rfl⟩, ki_RoadError_InvalidText⟩
    · exact ⟨_, _, PySem.W.mg_of X G g_RoadError, ⟨eg_RoadError, ek_RoadError, sb_RoadError, eh_RoadError, ea_RoadError, en0, et0, em_RoadError⟩, .inl ⟨PySem.W.mg_of X G g_InvalidWay, _, rfl⟩, ki_RoadError_InvalidWay⟩
    · exact ⟨_, _, PySem.W.mg_of X G g_RoadError, ⟨eg_RoadError, ek_RoadError, sb_RoadError, eh_RoadError, ea_RoadError, en0, et0, em_RoadError⟩, .inl ⟨PySem.W.mg_of X G g_NothingToUndo, _, rfl⟩, ki_RoadError_NothingToUndo⟩
    · exact ⟨_, _, PySem.W.mg_of X G g_RoadError, ⟨eg_RoadError, ek_RoadError, sb_RoadError, eh_RoadError, ea_RoadError, en0, et0, em_RoadError⟩, .inl ⟨PySem.W.mg_of X G g_RoadError, _, rfl⟩, ki_RoadError_RoadError⟩
    · exact ⟨_, _, PySem.W.mg_of X G g_RoadError, ⟨eg_RoadError, ek_RoadError, sb_RoadError, eh_RoadError, ea_RoadError, en0, et0, em_RoadError⟩, .inl ⟨PySem.W.mg_of X G g_TooMany, _, rfl⟩, ki_RoadError_TooMany⟩
    · exact ⟨_, _, PySem.W.mg_of X G g_RoadError, ⟨eg_RoadError, ek_RoadError, sb_RoadError, eh_RoadError, ea_RoadError, en0, et0, em_RoadError⟩, .inr ⟨PySem.W.mg_none_of X G zy_ValueError, by decide +kernel, rfl⟩, ki_RoadError_ValueError⟩
  have hisx_TooMany : XK ⟨l.prog, w, K, mg, []⟩ is_TooMany := by
    intro p hp
    simp only [is_TooMany, List.mem_cons, List.not_mem_nil, or_false] at hp
    rcases hp with rfl | rfl | rfl | rfl | rfl | rfl | rfl | rfl | rfl | rfl | rfl | rfl | rfl | rfl | rfl
    · exact ⟨_, _, PySem.W.mg_of X G g_TooMany, ⟨eg_TooMany, ek_TooMany, sb_TooMany, eh_TooMany, ea_TooMany, en0, et0, em_TooMany⟩, .inl ⟨PySem.W.mg_of X G g_Failed, _, rfl⟩, ki_TooMany_Failed⟩
    · exact ⟨_, _, PySem.W.mg_of X G g_TooMany, ⟨eg_TooMany, ek_TooMany, sb_TooMany, eh_TooMany, ea_TooMany, en0, et0, em_TooMany⟩, .inl ⟨PySem.W.mg_of X G g_InvalidKinds, _, rfl⟩, ki_TooMany_InvalidKinds⟩
    · exact ⟨_, _, PySem.W.mg_of X G g_TooMany, ⟨eg_TooMany, ek_TooMany, sb_TooMany, eh_TooMany, ea_TooMany, en0, et0, em_TooMany⟩, .inl ⟨PySem.W.mg_of X G g_InvalidNumber, _, rfl⟩, ki_TooMany_InvalidNumber⟩
    · exact ⟨_, _, PySem.W.mg_of X G g_TooMany, ⟨eg_TooMany, ek_TooMany, sb_TooMany, eh_TooMany, ea_TooMany, en0, et0, em_TooMany⟩, .inl ⟨PySem.W.mg_of X G g_InvalidPlace, _, rfl⟩, ki_TooMany_InvalidPlace⟩
    · exact ⟨_, _, PySem.W.mg_of X G g_TooMany, ⟨eg_TooMany, ek_TooMany, sb_TooMany, eh_TooMany, ea_TooMany, en0, et0, em_TooMany⟩, .inl ⟨PySem.W.mg_of X G g_InvalidPlan, _, rfl⟩, ki_TooMany_InvalidPlan⟩
    · exact ⟨_, _, PySem.W.mg_of X G g_TooMany, ⟨eg_TooMany, ek_TooMany, sb_TooMany, eh_TooMany, ea_TooMany, en0, et0, em_TooMany⟩, .inl ⟨PySem.W.mg_of X G g_InvalidPlayer, _, rfl⟩, ki_TooMany_InvalidPlayer⟩
    · exact ⟨_, _, PySem.W.mg_of X G g_TooMany, ⟨eg_TooMany, ek_TooMany, sb_TooMany, eh_TooMany, ea_TooMany, en0, et0, em_TooMany⟩, .inl ⟨PySem.W.mg_of X G g_InvalidRoad, _, rfl⟩, ki_TooMany_InvalidRoad⟩
    · exact ⟨_, _, PySem.W.mg_of X G g_TooMany, ⟨eg_TooMany, ek_TooMany, sb_TooMany, eh_TooMany, ea_TooMany, en0, et0, em_TooMany⟩, .inl ⟨PySem.W.mg_of X G g_InvalidSign, _, rfl⟩, ki_TooMany_InvalidSign⟩
    · exact ⟨_, _, PySem.W.mg_of X G g_TooMany, ⟨eg_TooMany, ek_TooMany, sb_TooMany, eh_TooMany, ea_TooMany, en0, et0, em_TooMany⟩, .inl ⟨PySem.W.mg_of X G g_InvalidStretch, _, rfl⟩, ki_TooMany_InvalidStretch⟩
    · exact ⟨_, _, PySem.W.mg_of X G g_TooMany, ⟨eg_TooMany, ek_TooMany, sb_TooMany, eh_TooMany, ea_TooMany, en0, et0, em_TooMany⟩, .inl ⟨PySem.W.mg_of X G g_InvalidText, _, rfl⟩, ki_TooMany_InvalidText⟩
    · exact ⟨_, _, PySem.W.mg_of X G g_TooMany, ⟨eg_TooMany, ek_TooMany, sb_TooMany, eh_TooMany, ea_TooMany, en0, et0, em_TooMany⟩, .inl ⟨PySem.W.mg_of X G g_InvalidWay, _, rfl⟩, ki_TooMany_InvalidWay⟩
    · exact ⟨_, _, PySem.W.mg_of X G g_TooMany, ⟨eg_TooMany, ek_TooMany, sb_TooMany, eh_TooMany, ea_TooMany, en0, et0, em_TooMany⟩, .inl ⟨PySem.W.mg_of X G g_NothingToUndo, _, rfl⟩, ki_TooMany_NothingToUndo⟩
    · exact ⟨_, _, PySem.W.mg_of X G g_TooMany, ⟨eg_TooMany, ek_TooMany, sb_TooMany, eh_TooMany, ea_TooMany, en0, et0, em_TooMany⟩, .inl ⟨PySem.W.mg_of X G g_RoadError, _, rfl⟩, ki_TooMany_RoadError⟩
    · exact ⟨_, _, PySem.W.mg_of X G g_TooMany, ⟨eg_TooMany, ek_TooMany, sb_TooMany, eh_TooMany, ea_TooMany, en0, et0, em_TooMany⟩, .inl ⟨PySem.W.mg_of X G g_TooMany, _, rfl⟩, ki_TooMany_TooMany⟩
    · exact ⟨_, _, PySem.W.mg_of X G g_TooMany, ⟨eg_TooMany, ek_TooMany, sb_TooMany, eh_TooMany, ea_TooMany, en0, et0, em_TooMany⟩, .inr ⟨PySem.W.mg_none_of X G zy_ValueError, by decide +kernel, rfl⟩, ki_TooMany_ValueError⟩
  have hisx : XK ⟨l.prog, w, K, mg, []⟩ is_t := (XK.app hisx_Failed (XK.app hisx_InvalidKinds (XK.app hisx_InvalidNumber (XK.app hisx_InvalidPlace (XK.app hisx_InvalidPlan (XK.app hisx_InvalidPlayer (XK.app hisx_InvalidRoad (XK.app hisx_InvalidSign (XK.app hisx_InvalidStretch (XK.app hisx_InvalidText (XK.app hisx_InvalidWay (XK.app hisx_NothingToUndo (XK.app hisx_RoadError hisx_TooMany)))))))))))))
  have hf_limit : XFs ⟨l.prog, w, K, mg, []⟩ fc_limit (Str.ofString "limit") := by
    intro x hx
    simp only [fc_limit, List.mem_cons, List.not_mem_nil, or_false] at hx
    rcases hx with rfl
    · exact ⟨C_TooMany, PySem.W.mg_of X G g_TooMany, ⟨yga_TooMany, ygg_TooMany, sb_TooMany, yhd_TooMany⟩, no_TooMany⟩
  have hf_line : XFs ⟨l.prog, w, K, mg, []⟩ fc_line (Str.ofString "line") := by
    intro x hx
    simp only [fc_line, List.mem_cons, List.not_mem_nil, or_false] at hx
    rcases hx with rfl
    · exact ⟨C_InvalidText, PySem.W.mg_of X G g_InvalidText, ⟨yga_InvalidText, ygg_InvalidText, sb_InvalidText, yhd_InvalidText⟩, no_InvalidText⟩
  have hf_place : XFs ⟨l.prog, w, K, mg, []⟩ fc_place (Str.ofString "place") := by
    intro x hx
    simp only [fc_place, List.mem_cons, List.not_mem_nil, or_false] at hx
    rcases hx with rfl
    · exact ⟨C_Failed, PySem.W.mg_of X G g_Failed, ⟨yga_Failed, ygg_Failed, sb_Failed, yhd_Failed⟩, no_Failed⟩
  have hstrx : XTs ⟨l.prog, w, K, mg, []⟩ st_cs := by
    intro x hx
    simp only [st_cs, List.mem_cons, List.not_mem_nil, or_false] at hx
    rcases hx with rfl | rfl | rfl | rfl | rfl | rfl | rfl | rfl | rfl | rfl | rfl
    · exact ⟨C_InvalidKinds, PySem.W.mg_of X G g_InvalidKinds, es_InvalidKinds, sb_InvalidKinds⟩
    · exact ⟨C_InvalidNumber, PySem.W.mg_of X G g_InvalidNumber, es_InvalidNumber, sb_InvalidNumber⟩
    · exact ⟨C_InvalidPlace, PySem.W.mg_of X G g_InvalidPlace, es_InvalidPlace, sb_InvalidPlace⟩
    · exact ⟨C_InvalidPlan, PySem.W.mg_of X G g_InvalidPlan, es_InvalidPlan, sb_InvalidPlan⟩
    · exact ⟨C_InvalidPlayer, PySem.W.mg_of X G g_InvalidPlayer, es_InvalidPlayer, sb_InvalidPlayer⟩
    · exact ⟨C_InvalidRoad, PySem.W.mg_of X G g_InvalidRoad, es_InvalidRoad, sb_InvalidRoad⟩
    · exact ⟨C_InvalidSign, PySem.W.mg_of X G g_InvalidSign, es_InvalidSign, sb_InvalidSign⟩
    · exact ⟨C_InvalidStretch, PySem.W.mg_of X G g_InvalidStretch, es_InvalidStretch, sb_InvalidStretch⟩
    · exact ⟨C_InvalidWay, PySem.W.mg_of X G g_InvalidWay, es_InvalidWay, sb_InvalidWay⟩
    · exact ⟨C_NothingToUndo, PySem.W.mg_of X G g_NothingToUndo, es_NothingToUndo, sb_NothingToUndo⟩
    · exact ⟨C_RoadError, PySem.W.mg_of X G g_RoadError, es_RoadError, sb_RoadError⟩
  have B : Bn l.prog w K mg ([]) := { int := PySem.W.mg_none_of X G z_int, isinstance := PySem.W.mg_none_of X G z_isinstance, len := PySem.W.mg_none_of X G z_len, range := PySem.W.mg_none_of X G z_range, str := PySem.W.mg_none_of X G z_str, x_InvalidKinds := ⟨C_InvalidKinds, PySem.W.mg_of X G g_InvalidKinds, x_InvalidKinds, kp_InvalidKinds, sb_InvalidKinds, ty_InvalidKinds⟩, x_InvalidNumber := ⟨C_InvalidNumber, PySem.W.mg_of X G g_InvalidNumber, x_InvalidNumber, kp_InvalidNumber, sb_InvalidNumber, ty_InvalidNumber⟩, x_InvalidPlace := ⟨C_InvalidPlace, PySem.W.mg_of X G g_InvalidPlace, x_InvalidPlace, kp_InvalidPlace, sb_InvalidPlace, ty_InvalidPlace⟩, x_InvalidPlan := ⟨C_InvalidPlan, PySem.W.mg_of X G g_InvalidPlan, x_InvalidPlan, kp_InvalidPlan, sb_InvalidPlan, ty_InvalidPlan⟩, x_InvalidPlayer := ⟨C_InvalidPlayer, PySem.W.mg_of X G g_InvalidPlayer, x_InvalidPlayer, kp_InvalidPlayer, sb_InvalidPlayer, ty_InvalidPlayer⟩, x_InvalidRoad := ⟨C_InvalidRoad, PySem.W.mg_of X G g_InvalidRoad, x_InvalidRoad, kp_InvalidRoad, sb_InvalidRoad, ty_InvalidRoad⟩, x_InvalidSign := ⟨C_InvalidSign, PySem.W.mg_of X G g_InvalidSign, x_InvalidSign, kp_InvalidSign, sb_InvalidSign, ty_InvalidSign⟩, x_InvalidStretch := ⟨C_InvalidStretch, PySem.W.mg_of X G g_InvalidStretch, x_InvalidStretch, kp_InvalidStretch, sb_InvalidStretch, ty_InvalidStretch⟩, x_InvalidWay := ⟨C_InvalidWay, PySem.W.mg_of X G g_InvalidWay, x_InvalidWay, kp_InvalidWay, sb_InvalidWay, ty_InvalidWay⟩, x_NothingToUndo := ⟨C_NothingToUndo, PySem.W.mg_of X G g_NothingToUndo, x_NothingToUndo, kp_NothingToUndo, sb_NothingToUndo, ty_NothingToUndo⟩, x_RoadError := ⟨C_RoadError, PySem.W.mg_of X G g_RoadError, x_RoadError, kp_RoadError, sb_RoadError, ty_RoadError⟩, h_Failed := ⟨_, .inl ⟨PySem.W.mg_of X G g_Failed, _, rfl⟩⟩, h_InvalidKinds := ⟨_, .inl ⟨PySem.W.mg_of X G g_InvalidKinds, _, rfl⟩⟩, h_InvalidNumber := ⟨_, .inl ⟨PySem.W.mg_of X G g_InvalidNumber, _, rfl⟩⟩, h_InvalidPlace := ⟨_, .inl ⟨PySem.W.mg_of X G g_InvalidPlace, _, rfl⟩⟩, h_InvalidPlan := ⟨_, .inl ⟨PySem.W.mg_of X G g_InvalidPlan, _, rfl⟩⟩, h_InvalidPlayer := ⟨_, .inl ⟨PySem.W.mg_of X G g_InvalidPlayer, _, rfl⟩⟩, h_InvalidRoad := ⟨_, .inl ⟨PySem.W.mg_of X G g_InvalidRoad, _, rfl⟩⟩, h_InvalidSign := ⟨_, .inl ⟨PySem.W.mg_of X G g_InvalidSign, _, rfl⟩⟩, h_InvalidStretch := ⟨_, .inl ⟨PySem.W.mg_of X G g_InvalidStretch, _, rfl⟩⟩, h_InvalidText := ⟨_, .inl ⟨PySem.W.mg_of X G g_InvalidText, _, rfl⟩⟩, h_InvalidWay := ⟨_, .inl ⟨PySem.W.mg_of X G g_InvalidWay, _, rfl⟩⟩, h_NothingToUndo := ⟨_, .inl ⟨PySem.W.mg_of X G g_NothingToUndo, _, rfl⟩⟩, h_RoadError := ⟨_, .inl ⟨PySem.W.mg_of X G g_RoadError, _, rfl⟩⟩, h_TooMany := ⟨_, .inl ⟨PySem.W.mg_of X G g_TooMany, _, rfl⟩⟩, h_ValueError := ⟨_, .inr ⟨PySem.W.mg_none_of X G zy_ValueError, by decide +kernel, rfl⟩⟩, isx := hisx, f_limit := hf_limit, f_line := hf_line, f_place := hf_place, strx := hstrx }
  have FI_Failed := fun_mk (st := si_Failed) li_Failed ci_Failed ki_Failed
  have bI_Failed := FI_Failed.binds (ps := pi_Failed) fun _ _ _ _ _ _ us hl => match us, hl with | [_, _], _ => rfl
  have XI_Failed : XI ⟨l.prog, w, K, mg, []⟩ base 1 "Failed" "place" := ⟨C_Failed, fi_Failed, _, pi_Failed, PySem.W.mg_of X G g_Failed, ⟨⟨nm_Failed, qn_Failed, Nx_Failed, bs_Failed, bm_Failed, sn_Failed, sub_Failed, ab_Failed, col_Failed, dd_Failed, m0_Failed, m1_Failed, m2_Failed, m3_Failed, m5_Failed, lx_Failed, rv_Failed⟩, sa_Failed, sb_Failed, ty_Failed, kp_Failed⟩, no_Failed, in_Failed, ti_Failed, ini_Failed FI_Failed (PySem.W.mg_of X G gr_RoadError) ⟨rd_RoadError, ga_RoadError⟩ cv_RoadError, bI_Failed⟩
  have FI_InvalidText := fun_mk (st := si_InvalidText) li_InvalidText ci_InvalidText ki_InvalidText
  have bI_InvalidText := FI_InvalidText.binds (ps := pi_InvalidText) fun _ _ _ _ _ _ us hl => match us, hl with | [_, _], _ => rfl
  have XI_InvalidText : XI ⟨l.prog, w, K, mg, []⟩ base 1 "InvalidText" "line" := ⟨C_InvalidText, fi_InvalidText, _, pi_InvalidText, PySem.W.mg_of X G g_InvalidText, ⟨⟨nm_InvalidText, qn_InvalidText, Nx_InvalidText, bs_InvalidText, bm_InvalidText, sn_InvalidText, sub_InvalidText, ab_InvalidText, col_InvalidText, dd_InvalidText, m0_InvalidText, m1_InvalidText, m2_InvalidText, m3_InvalidText, m5_InvalidText, lx_InvalidText, rv_InvalidText⟩, sa_InvalidText, sb_InvalidText, ty_InvalidText, kp_InvalidText⟩, no_InvalidText, in_InvalidText, ti_InvalidText, ini_InvalidText FI_InvalidText (PySem.W.mg_of X G gr_RoadError) ⟨rd_RoadError, ga_RoadError⟩ cv_RoadError, bI_InvalidText⟩
  have FI_TooMany := fun_mk (st := si_TooMany) li_TooMany ci_TooMany ki_TooMany
  have bI_TooMany := FI_TooMany.binds (ps := pi_TooMany) fun _ _ _ _ _ _ us hl => match us, hl with | [_, _], _ => rfl
  have XI_TooMany : XI ⟨l.prog, w, K, mg, []⟩ base 1 "TooMany" "limit" := ⟨C_TooMany, fi_TooMany, _, pi_TooMany, PySem.W.mg_of X G g_TooMany, ⟨⟨nm_TooMany, qn_TooMany, Nx_TooMany, bs_TooMany, bm_TooMany, sn_TooMany, sub_TooMany, ab_TooMany, col_TooMany, dd_TooMany, m0_TooMany, m1_TooMany, m2_TooMany, m3_TooMany, m5_TooMany, lx_TooMany, rv_TooMany⟩, sa_TooMany, sb_TooMany, ty_TooMany, kp_TooMany⟩, no_TooMany, in_TooMany, ti_TooMany, ini_TooMany FI_TooMany (PySem.W.mg_of X G gr_RoadError) ⟨rd_RoadError, ga_RoadError⟩ cv_RoadError, bI_TooMany⟩
  have F0 := fun_mk (st := s__law_sack) l0 c0 k0
  have b0 := F0.binds (ps := p__law_sack) fun _ _ _ _ _ _ us hl => match us, hl with | [_, _], _ => rfl
  have H__law_sack : ∀ k, 1 ≤ k → Kn ⟨l.prog, w, K, mg, []⟩ base k "_law_sack" (spN ⟨l.prog, w, K, mg, []⟩ 2 F__law_sack) := fun k hk => kn_of X G (ok__law_sack (k := 0) B  F0) a0 k0 b0 hk
  have F1 := fun_mk (st := s__law_grip) l1 c1 k1
  have b1 := F1.binds (ps := p__law_grip) fun _ _ _ _ _ _ us hl => match us, hl with | [_, _], _ => rfl
  have H__law_grip : ∀ k, 1 ≤ k → Kn ⟨l.prog, w, K, mg, []⟩ base k "_law_grip" (sp1 ⟨l.prog, w, K, mg, []⟩ 2 0 F__law_grip) := fun k hk => kn_of X G (ok__law_grip (k := 0) B  F1) a1 k1 b1 hk
  have F2 := fun_mk (st := s__law_pick) l2 c2 k2
  have b2 := F2.binds (ps := p__law_pick) fun _ _ _ _ _ _ us hl => match us, hl with | [_, _], _ => rfl
  have H__law_pick : ∀ k, 2 ≤ k → Kn ⟨l.prog, w, K, mg, []⟩ base k "_law_pick" (sp1 ⟨l.prog, w, K, mg, []⟩ 2 0 F__law_pick) := fun k hk => kn_of X G (ok__law_pick (k := 1) B (H__law_grip 1 (by decide)) F2) a2 k2 b2 hk
  have F3 := fun_mk (st := s__law_which) l3 c3 k3
  have b3 := F3.binds (ps := p__law_which) fun _ _ _ _ _ _ us hl => match us, hl with | [_], _ => rfl
  have H__law_which : ∀ k, 1 ≤ k → Kn ⟨l.prog, w, K, mg, []⟩ base k "_law_which" (sp0 ⟨l.prog, w, K, mg, []⟩ 1 F__law_which) := fun k hk => kn_of X G (ok__law_which (k := 0) B  F3) a3 k3 b3 hk
  have F4 := fun_mk (st := s_law) l4 c4 k4
  exact law_imp (ok_law (k := 2) B (H__law_sack 2 (by decide)) (H__law_pick 2 (by decide)) (H__law_grip 2 (by decide)) (H__law_which 2 (by decide)) XI_Failed XI_InvalidText XI_TooMany (by decide) F4) law_true
end Q
open PySem PySem.W PyProof.Rows
set_option maxHeartbeats 0 in
theorem PySem.Challenge.cw_stoneroads_k20_errors_and_their_classes_holds : PySem.Challenge.rw_stoneroads_k20_errors_and_their_classes.Holds := by
  w_on; o_law; k_head; (case hw => w_witness2)
  k_fill
  refine L2.walk_of (l := PySem.Challenge.rw_stoneroads_k20_errors_and_their_classes) (n := 63) (k := 3) (x := "script") (CX := fun w => L2.CX PySem.Challenge.rw_stoneroads_k20_errors_and_their_classes.prog w) (sp := fun w => Mir.spLaw _) rfl (by decide) rfl ⟨rfl, by decide, by decide⟩ (fun w h Y => PySem.W.kIn_of Y) ?F (fun _ _ a ns hl hO hS => ⟨a, ns, rfl, hl, Mir.sc_of hO hS, fun _ => rfl⟩) (fun _ _ _ _ _ h => Mir.cx_none h)
  case F =>
    intro w mg fa h KX G hmg
    refine' Q.all_mk KX G hmg ?a0 ?l0 ?c0 ?k0 ?a1 ?l1 ?c1 ?k1 ?a2 ?l2 ?c2 ?k2 ?a3 ?l3 ?c3 ?k3 ?a4 ?l4 ?c4 ?k4 ?z_int ?z_isinstance ?z_len ?z_range ?z_str ?g_InvalidKinds ?x_InvalidKinds ?kp_InvalidKinds ?sb_InvalidKinds ?ty_InvalidKinds ?g_InvalidNumber ?x_InvalidNumber ?kp_InvalidNumber ?sb_InvalidNumber ?ty_InvalidNumber ?g_InvalidPlace ?x_InvalidPlace ?kp_InvalidPlace ?sb_InvalidPlace ?ty_InvalidPlace ?g_InvalidPlan ?x_InvalidPlan ?kp_InvalidPlan ?sb_InvalidPlan ?ty_InvalidPlan ?g_InvalidPlayer ?x_InvalidPlayer ?kp_InvalidPlayer ?sb_InvalidPlayer ?ty_InvalidPlayer ?g_InvalidRoad ?x_InvalidRoad ?kp_InvalidRoad ?sb_InvalidRoad ?ty_InvalidRoad ?g_InvalidSign ?x_InvalidSign ?kp_InvalidSign ?sb_InvalidSign ?ty_InvalidSign ?g_InvalidStretch ?x_InvalidStretch ?kp_InvalidStretch ?sb_InvalidStretch ?ty_InvalidStretch ?g_InvalidWay ?x_InvalidWay ?kp_InvalidWay ?sb_InvalidWay ?ty_InvalidWay ?g_NothingToUndo ?x_NothingToUndo ?kp_NothingToUndo ?sb_NothingToUndo ?ty_NothingToUndo ?g_RoadError ?x_RoadError ?kp_RoadError ?sb_RoadError ?ty_RoadError ?gr_RoadError ?rd_RoadError ?ga_RoadError ?cv_RoadError ?g_Failed ?lx_Failed ?rv_Failed ?sa_Failed ?no_Failed ?in_Failed ?ti_Failed ?kp_Failed ?sb_Failed ?ty_Failed ?li_Failed ?ci_Failed ?ki_Failed ?g_InvalidText ?lx_InvalidText ?rv_InvalidText ?sa_InvalidText ?no_InvalidText ?in_InvalidText ?ti_InvalidText ?kp_InvalidText ?sb_InvalidText ?ty_InvalidText ?li_InvalidText ?ci_InvalidText ?ki_InvalidText ?g_TooMany ?lx_TooMany ?rv_TooMany ?sa_TooMany ?no_TooMany ?in_TooMany ?ti_TooMany ?kp_TooMany ?sb_TooMany ?ty_TooMany ?li_TooMany ?ci_TooMany ?ki_TooMany ?eg_Failed ?ek_Failed ?eh_Failed ?ea_Failed ?em_Failed ?eg_InvalidKinds ?ek_InvalidKinds ?eh_InvalidKinds ?ea_InvalidKinds ?em_InvalidKinds ?es_InvalidKinds ?eg_InvalidNumber ?ek_InvalidNumber ?eh_InvalidNumber ?ea_InvalidNumber ?em_InvalidNumber ?es_InvalidNumber ?eg_InvalidPlace ?ek_InvalidPlace ?eh_InvalidPlace ?ea_InvalidPlace ?em_InvalidPlace ?es_InvalidPlace ?eg_InvalidPlan ?ek_InvalidPlan ?eh_InvalidPlan ?ea_InvalidPlan ?em_InvalidPlan ?es_InvalidPlan ?eg_InvalidPlayer ?ek_InvalidPlayer ?eh_InvalidPlayer ?ea_InvalidPlayer ?em_InvalidPlayer ?es_InvalidPlayer ?eg_InvalidRoad ?ek_InvalidRoad ?eh_InvalidRoad ?ea_InvalidRoad ?em_InvalidRoad ?es_InvalidRoad ?eg_InvalidSign ?ek_InvalidSign ?eh_InvalidSign ?ea_InvalidSign ?em_InvalidSign ?es_InvalidSign ?eg_InvalidStretch ?ek_InvalidStretch ?eh_InvalidStretch ?ea_InvalidStretch ?em_InvalidStretch ?es_InvalidStretch ?eg_InvalidText ?ek_InvalidText ?eh_InvalidText ?ea_InvalidText ?em_InvalidText ?eg_InvalidWay ?ek_InvalidWay ?eh_InvalidWay ?ea_InvalidWay ?em_InvalidWay ?es_InvalidWay ?eg_NothingToUndo ?ek_NothingToUndo ?eh_NothingToUndo ?ea_NothingToUndo ?em_NothingToUndo ?es_NothingToUndo ?eg_RoadError ?ek_RoadError ?eh_RoadError ?ea_RoadError ?em_RoadError ?es_RoadError ?eg_TooMany ?ek_TooMany ?eh_TooMany ?ea_TooMany ?em_TooMany ?en0 ?et0 ?zy_ValueError ?ki_Failed_Failed ?ki_Failed_InvalidKinds ?ki_Failed_InvalidNumber ?ki_Failed_InvalidPlace ?ki_Failed_InvalidPlan ?ki_Failed_InvalidPlayer ?ki_Failed_InvalidRoad ?ki_Failed_InvalidSign ?ki_Failed_InvalidStretch ?ki_Failed_InvalidText ?ki_Failed_InvalidWay ?ki_Failed_NothingToUndo ?ki_Failed_RoadError ?ki_Failed_TooMany ?ki_Failed_ValueError ?ki_InvalidKinds_Failed ?ki_InvalidKinds_InvalidKinds ?ki_InvalidKinds_InvalidNumber ?ki_InvalidKinds_InvalidPlace ?ki_InvalidKinds_InvalidPlan ?ki_InvalidKinds_InvalidPlayer ?ki_InvalidKinds_InvalidRoad ?ki_InvalidKinds_InvalidSign ?ki_InvalidKinds_InvalidStretch ?ki_InvalidKinds_InvalidText ?ki_InvalidKinds_InvalidWay ?ki_InvalidKinds_NothingToUndo ?ki_InvalidKinds_RoadError ?ki_InvalidKinds_TooMany ?ki_InvalidKinds_ValueError ?ki_InvalidNumber_Failed ?ki_InvalidNumber_InvalidKinds ?ki_InvalidNumber_InvalidNumber ?ki_InvalidNumber_InvalidPlace ?ki_InvalidNumber_InvalidPlan ?ki_InvalidNumber_InvalidPlayer ?ki_InvalidNumber_InvalidRoad ?ki_InvalidNumber_InvalidSign ?ki_InvalidNumber_InvalidStretch ?ki_InvalidNumber_InvalidText ?ki_InvalidNumber_InvalidWay ?ki_InvalidNumber_NothingToUndo ?ki_InvalidNumber_RoadError ?ki_InvalidNumber_TooMany ?ki_InvalidNumber_ValueError ?ki_InvalidPlace_Failed ?ki_InvalidPlace_InvalidKinds ?ki_InvalidPlace_InvalidNumber ?ki_InvalidPlace_InvalidPlace ?ki_InvalidPlace_InvalidPlan ?ki_InvalidPlace_InvalidPlayer ?ki_InvalidPlace_InvalidRoad ?ki_InvalidPlace_InvalidSign ?ki_InvalidPlace_InvalidStretch ?ki_InvalidPlace_InvalidText ?ki_InvalidPlace_InvalidWay ?ki_InvalidPlace_NothingToUndo ?ki_InvalidPlace_RoadError ?ki_InvalidPlace_TooMany ?ki_InvalidPlace_ValueError ?ki_InvalidPlan_Failed ?ki_InvalidPlan_InvalidKinds ?ki_InvalidPlan_InvalidNumber ?ki_InvalidPlan_InvalidPlace ?ki_InvalidPlan_InvalidPlan ?ki_InvalidPlan_InvalidPlayer ?ki_InvalidPlan_InvalidRoad ?ki_InvalidPlan_InvalidSign ?ki_InvalidPlan_InvalidStretch ?ki_InvalidPlan_InvalidText ?ki_InvalidPlan_InvalidWay ?ki_InvalidPlan_NothingToUndo ?ki_InvalidPlan_RoadError ?ki_InvalidPlan_TooMany ?ki_InvalidPlan_ValueError ?ki_InvalidPlayer_Failed ?ki_InvalidPlayer_InvalidKinds ?ki_InvalidPlayer_InvalidNumber ?ki_InvalidPlayer_InvalidPlace ?ki_InvalidPlayer_InvalidPlan ?ki_InvalidPlayer_InvalidPlayer ?ki_InvalidPlayer_InvalidRoad ?ki_InvalidPlayer_InvalidSign ?ki_InvalidPlayer_InvalidStretch ?ki_InvalidPlayer_InvalidText ?ki_InvalidPlayer_InvalidWay ?ki_InvalidPlayer_NothingToUndo ?ki_InvalidPlayer_RoadError ?ki_InvalidPlayer_TooMany ?ki_InvalidPlayer_ValueError ?ki_InvalidRoad_Failed ?ki_InvalidRoad_InvalidKinds ?ki_InvalidRoad_InvalidNumber ?ki_InvalidRoad_InvalidPlace ?ki_InvalidRoad_InvalidPlan ?ki_InvalidRoad_InvalidPlayer ?ki_InvalidRoad_InvalidRoad ?ki_InvalidRoad_InvalidSign ?ki_InvalidRoad_InvalidStretch ?ki_InvalidRoad_InvalidText ?ki_InvalidRoad_InvalidWay ?ki_InvalidRoad_NothingToUndo ?ki_InvalidRoad_RoadError ?ki_InvalidRoad_TooMany ?ki_InvalidRoad_ValueError ?ki_InvalidSign_Failed ?ki_InvalidSign_InvalidKinds ?ki_InvalidSign_InvalidNumber ?ki_InvalidSign_InvalidPlace ?ki_InvalidSign_InvalidPlan ?ki_InvalidSign_InvalidPlayer ?ki_InvalidSign_InvalidRoad ?ki_InvalidSign_InvalidSign ?ki_InvalidSign_InvalidStretch ?ki_InvalidSign_InvalidText ?ki_InvalidSign_InvalidWay ?ki_InvalidSign_NothingToUndo ?ki_InvalidSign_RoadError ?ki_InvalidSign_TooMany ?ki_InvalidSign_ValueError ?ki_InvalidStretch_Failed ?ki_InvalidStretch_InvalidKinds ?ki_InvalidStretch_InvalidNumber ?ki_InvalidStretch_InvalidPlace ?ki_InvalidStretch_InvalidPlan ?ki_InvalidStretch_InvalidPlayer ?ki_InvalidStretch_InvalidRoad ?ki_InvalidStretch_InvalidSign ?ki_InvalidStretch_InvalidStretch ?ki_InvalidStretch_InvalidText ?ki_InvalidStretch_InvalidWay ?ki_InvalidStretch_NothingToUndo ?ki_InvalidStretch_RoadError ?ki_InvalidStretch_TooMany ?ki_InvalidStretch_ValueError ?ki_InvalidText_Failed ?ki_InvalidText_InvalidKinds ?ki_InvalidText_InvalidNumber ?ki_InvalidText_InvalidPlace ?ki_InvalidText_InvalidPlan ?ki_InvalidText_InvalidPlayer ?ki_InvalidText_InvalidRoad ?ki_InvalidText_InvalidSign ?ki_InvalidText_InvalidStretch ?ki_InvalidText_InvalidText ?ki_InvalidText_InvalidWay ?ki_InvalidText_NothingToUndo ?ki_InvalidText_RoadError ?ki_InvalidText_TooMany ?ki_InvalidText_ValueError ?ki_InvalidWay_Failed ?ki_InvalidWay_InvalidKinds ?ki_InvalidWay_InvalidNumber ?ki_InvalidWay_InvalidPlace ?ki_InvalidWay_InvalidPlan ?ki_InvalidWay_InvalidPlayer ?ki_InvalidWay_InvalidRoad ?ki_InvalidWay_InvalidSign ?ki_InvalidWay_InvalidStretch ?ki_InvalidWay_InvalidText ?ki_InvalidWay_InvalidWay ?ki_InvalidWay_NothingToUndo ?ki_InvalidWay_RoadError ?ki_InvalidWay_TooMany ?ki_InvalidWay_ValueError ?ki_NothingToUndo_Failed ?ki_NothingToUndo_InvalidKinds ?ki_NothingToUndo_InvalidNumber ?ki_NothingToUndo_InvalidPlace ?ki_NothingToUndo_InvalidPlan ?ki_NothingToUndo_InvalidPlayer ?ki_NothingToUndo_InvalidRoad ?ki_NothingToUndo_InvalidSign ?ki_NothingToUndo_InvalidStretch ?ki_NothingToUndo_InvalidText ?ki_NothingToUndo_InvalidWay ?ki_NothingToUndo_NothingToUndo ?ki_NothingToUndo_RoadError ?ki_NothingToUndo_TooMany ?ki_NothingToUndo_ValueError ?ki_RoadError_Failed ?ki_RoadError_InvalidKinds ?ki_RoadError_InvalidNumber ?ki_RoadError_InvalidPlace ?ki_RoadError_InvalidPlan ?ki_RoadError_InvalidPlayer ?ki_RoadError_InvalidRoad ?ki_RoadError_InvalidSign ?ki_RoadError_InvalidStretch ?ki_RoadError_InvalidText ?ki_RoadError_InvalidWay ?ki_RoadError_NothingToUndo ?ki_RoadError_RoadError ?ki_RoadError_TooMany ?ki_RoadError_ValueError ?ki_TooMany_Failed ?ki_TooMany_InvalidKinds ?ki_TooMany_InvalidNumber ?ki_TooMany_InvalidPlace ?ki_TooMany_InvalidPlan ?ki_TooMany_InvalidPlayer ?ki_TooMany_InvalidRoad ?ki_TooMany_InvalidSign ?ki_TooMany_InvalidStretch ?ki_TooMany_InvalidText ?ki_TooMany_InvalidWay ?ki_TooMany_NothingToUndo ?ki_TooMany_RoadError ?ki_TooMany_TooMany ?ki_TooMany_ValueError ?yga_TooMany ?ygg_TooMany ?yhd_TooMany ?yga_InvalidText ?ygg_InvalidText ?yhd_InvalidText ?yga_Failed ?ygg_Failed ?yhd_Failed
    (case a0 => k_is)
    (case l0 => k_is)
    (case c0 => k_is)
    (case k0 => k_is)
    (case a1 => k_is)
    (case l1 => k_is)
    (case c1 => k_is)
    (case k1 => k_is)
    (case a2 => k_is)
    (case l2 => k_is)
    (case c2 => k_is)
    (case k2 => k_is)
    (case a3 => k_is)
    (case l3 => k_is)
    (case c3 => k_is)
    (case k3 => k_is)
    (case a4 => k_is)
    (case l4 => k_is)
    (case c4 => k_is)
    (case k4 => k_is)
    (case z_int => k_is)
    (case z_isinstance => k_is)
    (case z_len => k_is)
    (case z_range => k_is)
    (case z_str => k_is)
    (case g_InvalidKinds => k_is)
    (case x_InvalidKinds => k_exc)
    (case kp_InvalidKinds => k_is)
    (case sb_InvalidKinds => k_is)
    (case ty_InvalidKinds => k_is)
    (case g_InvalidNumber => k_is)
    (case x_InvalidNumber => k_exc)
    (case kp_InvalidNumber => k_is)
    (case sb_InvalidNumber => k_is)
    (case ty_InvalidNumber => k_is)
    (case g_InvalidPlace => k_is)
    (case x_InvalidPlace => k_exc)
    (case kp_InvalidPlace => k_is)
    (case sb_InvalidPlace => k_is)
    (case ty_InvalidPlace => k_is)
    (case g_InvalidPlan => k_is)
    (case x_InvalidPlan => k_exc)
    (case kp_InvalidPlan => k_is)
    (case sb_InvalidPlan => k_is)
    (case ty_InvalidPlan => k_is)
    (case g_InvalidPlayer => k_is)
    (case x_InvalidPlayer => k_exc)
    (case kp_InvalidPlayer => k_is)
    (case sb_InvalidPlayer => k_is)
    (case ty_InvalidPlayer => k_is)
    (case g_InvalidRoad => k_is)
    (case x_InvalidRoad => k_exc)
    (case kp_InvalidRoad => k_is)
    (case sb_InvalidRoad => k_is)
    (case ty_InvalidRoad => k_is)
    (case g_InvalidSign => k_is)
    (case x_InvalidSign => k_exc)
    (case kp_InvalidSign => k_is)
    (case sb_InvalidSign => k_is)
    (case ty_InvalidSign => k_is)
    (case g_InvalidStretch => k_is)
    (case x_InvalidStretch => k_exc)
    (case kp_InvalidStretch => k_is)
    (case sb_InvalidStretch => k_is)
    (case ty_InvalidStretch => k_is)
    (case g_InvalidWay => k_is)
    (case x_InvalidWay => k_exc)
    (case kp_InvalidWay => k_is)
    (case sb_InvalidWay => k_is)
    (case ty_InvalidWay => k_is)
    (case g_NothingToUndo => k_is)
    (case x_NothingToUndo => k_exc)
    (case kp_NothingToUndo => k_is)
    (case sb_NothingToUndo => k_is)
    (case ty_NothingToUndo => k_is)
    (case g_RoadError => k_is)
    (case x_RoadError => k_exc)
    (case kp_RoadError => k_is)
    (case sb_RoadError => k_is)
    (case ty_RoadError => k_is)
    (case gr_RoadError => k_is)
    (case rd_RoadError => k_is)
    (case ga_RoadError => k_is)
    (case cv_RoadError => k_is)
    (case g_Failed => k_is)
    (case lx_Failed => k_is)
    (case rv_Failed => decide +kernel)
    (case sa_Failed => k_is)
    (case no_Failed => k_is)
    (case in_Failed => k_is)
    (case ti_Failed => k_is)
    (case kp_Failed => k_is)
    (case sb_Failed => k_is)
    (case ty_Failed => k_is)
    (case li_Failed => k_is)
    (case ci_Failed => k_is)
    (case ki_Failed => k_is)
    (case g_InvalidText => k_is)
    (case lx_InvalidText => k_is)
    (case rv_InvalidText => decide +kernel)
    (case sa_InvalidText => k_is)
    (case no_InvalidText => k_is)
    (case in_InvalidText => k_is)
    (case ti_InvalidText => k_is)
    (case kp_InvalidText => k_is)
    (case sb_InvalidText => k_is)
    (case ty_InvalidText => k_is)
    (case li_InvalidText => k_is)
    (case ci_InvalidText => k_is)
    (case ki_InvalidText => k_is)
    (case g_TooMany => k_is)
    (case lx_TooMany => k_is)
    (case rv_TooMany => decide +kernel)
    (case sa_TooMany => k_is)
    (case no_TooMany => k_is)
    (case in_TooMany => k_is)
    (case ti_TooMany => k_is)
    (case kp_TooMany => k_is)
    (case sb_TooMany => k_is)
    (case ty_TooMany => k_is)
    (case li_TooMany => k_is)
    (case ci_TooMany => k_is)
    (case ki_TooMany => k_is)
    (case eg_Failed => k_is)
    (case ek_Failed => k_is)
    (case eh_Failed => k_is)
    (case ea_Failed => k_is)
    (case em_Failed => k_is)
    (case eg_InvalidKinds => k_is)
    (case ek_InvalidKinds => k_is)
    (case eh_InvalidKinds => k_is)
    (case ea_InvalidKinds => k_is)
    (case em_InvalidKinds => k_is)
    (case es_InvalidKinds => k_is)
    (case eg_InvalidNumber => k_is)
    (case ek_InvalidNumber => k_is)
    (case eh_InvalidNumber => k_is)
    (case ea_InvalidNumber => k_is)
    (case em_InvalidNumber => k_is)
    (case es_InvalidNumber => k_is)
    (case eg_InvalidPlace => k_is)
    (case ek_InvalidPlace => k_is)
    (case eh_InvalidPlace => k_is)
    (case ea_InvalidPlace => k_is)
    (case em_InvalidPlace => k_is)
    (case es_InvalidPlace => k_is)
    (case eg_InvalidPlan => k_is)
    (case ek_InvalidPlan => k_is)
    (case eh_InvalidPlan => k_is)
    (case ea_InvalidPlan => k_is)
    (case em_InvalidPlan => k_is)
    (case es_InvalidPlan => k_is)
    (case eg_InvalidPlayer => k_is)
    (case ek_InvalidPlayer => k_is)
    (case eh_InvalidPlayer => k_is)
    (case ea_InvalidPlayer => k_is)
    (case em_InvalidPlayer => k_is)
    (case es_InvalidPlayer => k_is)
    (case eg_InvalidRoad => k_is)
    (case ek_InvalidRoad => k_is)
    (case eh_InvalidRoad => k_is)
    (case ea_InvalidRoad => k_is)
    (case em_InvalidRoad => k_is)
    (case es_InvalidRoad => k_is)
    (case eg_InvalidSign => k_is)
    (case ek_InvalidSign => k_is)
    (case eh_InvalidSign => k_is)
    (case ea_InvalidSign => k_is)
    (case em_InvalidSign => k_is)
    (case es_InvalidSign => k_is)
    (case eg_InvalidStretch => k_is)
    (case ek_InvalidStretch => k_is)
    (case eh_InvalidStretch => k_is)
    (case ea_InvalidStretch => k_is)
    (case em_InvalidStretch => k_is)
    (case es_InvalidStretch => k_is)
    (case eg_InvalidText => k_is)
    (case ek_InvalidText => k_is)
    (case eh_InvalidText => k_is)
    (case ea_InvalidText => k_is)
    (case em_InvalidText => k_is)
    (case eg_InvalidWay => k_is)
    (case ek_InvalidWay => k_is)
    (case eh_InvalidWay => k_is)
    (case ea_InvalidWay => k_is)
    (case em_InvalidWay => k_is)
    (case es_InvalidWay => k_is)
    (case eg_NothingToUndo => k_is)
    (case ek_NothingToUndo => k_is)
    (case eh_NothingToUndo => k_is)
    (case ea_NothingToUndo => k_is)
    (case em_NothingToUndo => k_is)
    (case es_NothingToUndo => k_is)
    (case eg_RoadError => k_is)
    (case ek_RoadError => k_is)
    (case eh_RoadError => k_is)
    (case ea_RoadError => k_is)
    (case em_RoadError => k_is)
    (case es_RoadError => k_is)
    (case eg_TooMany => k_is)
    (case ek_TooMany => k_is)
    (case eh_TooMany => k_is)
    (case ea_TooMany => k_is)
    (case em_TooMany => k_is)
    (case en0 => k_is)
    (case et0 => k_is)
    (case zy_ValueError => k_is)
    (case ki_Failed_Failed => kit_is)
    (case ki_Failed_InvalidKinds => kit_is)
    (case ki_Failed_InvalidNumber => kit_is)
    (case ki_Failed_InvalidPlace => kit_is)
    (case ki_Failed_InvalidPlan => kit_is)
    (case ki_Failed_InvalidPlayer => kit_is)
    (case ki_Failed_InvalidRoad => kit_is)
    (case ki_Failed_InvalidSign => kit_is)
    (case ki_Failed_InvalidStretch => kit_is)
    (case ki_Failed_InvalidText => kit_is)
    (case ki_Failed_InvalidWay => kit_is)
    (case ki_Failed_NothingToUndo => kit_is)
    (case ki_Failed_RoadError => kit_is)
    (case ki_Failed_TooMany => kit_is)
    (case ki_Failed_ValueError => kit_is)
    (case ki_InvalidKinds_Failed => kit_is)
    (case ki_InvalidKinds_InvalidKinds => kit_is)
    (case ki_InvalidKinds_InvalidNumber => kit_is)
    (case ki_InvalidKinds_InvalidPlace => kit_is)
    (case ki_InvalidKinds_InvalidPlan => kit_is)
    (case ki_InvalidKinds_InvalidPlayer => kit_is)
    (case ki_InvalidKinds_InvalidRoad => kit_is)
    (case ki_InvalidKinds_InvalidSign => kit_is)
    (case ki_InvalidKinds_InvalidStretch => kit_is)
    (case ki_InvalidKinds_InvalidText => kit_is)
    (case ki_InvalidKinds_InvalidWay => kit_is)
    (case ki_InvalidKinds_NothingToUndo => kit_is)
    (case ki_InvalidKinds_RoadError => kit_is)
    (case ki_InvalidKinds_TooMany => kit_is)
    (case ki_InvalidKinds_ValueError => kit_is)
    (case ki_InvalidNumber_Failed => kit_is)
    (case ki_InvalidNumber_InvalidKinds => kit_is)
    (case ki_InvalidNumber_InvalidNumber => kit_is)
    (case ki_InvalidNumber_InvalidPlace => kit_is)
    (case ki_InvalidNumber_InvalidPlan => kit_is)
    (case ki_InvalidNumber_InvalidPlayer => kit_is)
    (case ki_InvalidNumber_InvalidRoad => kit_is)
    (case ki_InvalidNumber_InvalidSign => kit_is)
    (case ki_InvalidNumber_InvalidStretch => kit_is)
    (case ki_InvalidNumber_InvalidText => kit_is)
    (case ki_InvalidNumber_InvalidWay => kit_is)
    (case ki_InvalidNumber_NothingToUndo => kit_is)
    (case ki_InvalidNumber_RoadError => kit_is)
    (case ki_InvalidNumber_TooMany => kit_is)
    (case ki_InvalidNumber_ValueError => kit_is)
    (case ki_InvalidPlace_Failed => kit_is)
    (case ki_InvalidPlace_InvalidKinds => kit_is)
    (case ki_InvalidPlace_InvalidNumber => kit_is)
    (case ki_InvalidPlace_InvalidPlace => kit_is)
    (case ki_InvalidPlace_InvalidPlan => kit_is)
    (case ki_InvalidPlace_InvalidPlayer => kit_is)
    (case ki_InvalidPlace_InvalidRoad => kit_is)
    (case ki_InvalidPlace_InvalidSign => kit_is)
    (case ki_InvalidPlace_InvalidStretch => kit_is)
    (case ki_InvalidPlace_InvalidText => kit_is)
    (case ki_InvalidPlace_InvalidWay => kit_is)
    (case ki_InvalidPlace_NothingToUndo => kit_is)
    (case ki_InvalidPlace_RoadError => kit_is)
    (case ki_InvalidPlace_TooMany => kit_is)
    (case ki_InvalidPlace_ValueError => kit_is)
    (case ki_InvalidPlan_Failed => kit_is)
    (case ki_InvalidPlan_InvalidKinds => kit_is)
    (case ki_InvalidPlan_InvalidNumber => kit_is)
    (case ki_InvalidPlan_InvalidPlace => kit_is)
    (case ki_InvalidPlan_InvalidPlan => kit_is)
    (case ki_InvalidPlan_InvalidPlayer => kit_is)
    (case ki_InvalidPlan_InvalidRoad => kit_is)
    (case ki_InvalidPlan_InvalidSign => kit_is)
    (case ki_InvalidPlan_InvalidStretch => kit_is)
    (case ki_InvalidPlan_InvalidText => kit_is)
    (case ki_InvalidPlan_InvalidWay => kit_is)
    (case ki_InvalidPlan_NothingToUndo => kit_is)
    (case ki_InvalidPlan_RoadError => kit_is)
    (case ki_InvalidPlan_TooMany => kit_is)
    (case ki_InvalidPlan_ValueError => kit_is)
    (case ki_InvalidPlayer_Failed => kit_is)
    (case ki_InvalidPlayer_InvalidKinds => kit_is)
    (case ki_InvalidPlayer_InvalidNumber => kit_is)
    (case ki_InvalidPlayer_InvalidPlace => kit_is)
    (case ki_InvalidPlayer_InvalidPlan => kit_is)
    (case ki_InvalidPlayer_InvalidPlayer => kit_is)
    (case ki_InvalidPlayer_InvalidRoad => kit_is)
    (case ki_InvalidPlayer_InvalidSign => kit_is)
    (case ki_InvalidPlayer_InvalidStretch => kit_is)
    (case ki_InvalidPlayer_InvalidText => kit_is)
    (case ki_InvalidPlayer_InvalidWay => kit_is)
    (case ki_InvalidPlayer_NothingToUndo => kit_is)
    (case ki_InvalidPlayer_RoadError => kit_is)
    (case ki_InvalidPlayer_TooMany => kit_is)
    (case ki_InvalidPlayer_ValueError => kit_is)
    (case ki_InvalidRoad_Failed => kit_is)
    (case ki_InvalidRoad_InvalidKinds => kit_is)
    (case ki_InvalidRoad_InvalidNumber => kit_is)
    (case ki_InvalidRoad_InvalidPlace => kit_is)
    (case ki_InvalidRoad_InvalidPlan => kit_is)
    (case ki_InvalidRoad_InvalidPlayer => kit_is)
    (case ki_InvalidRoad_InvalidRoad => kit_is)
    (case ki_InvalidRoad_InvalidSign => kit_is)
    (case ki_InvalidRoad_InvalidStretch => kit_is)
    (case ki_InvalidRoad_InvalidText => kit_is)
    (case ki_InvalidRoad_InvalidWay => kit_is)
    (case ki_InvalidRoad_NothingToUndo => kit_is)
    (case ki_InvalidRoad_RoadError => kit_is)
    (case ki_InvalidRoad_TooMany => kit_is)
    (case ki_InvalidRoad_ValueError => kit_is)
    (case ki_InvalidSign_Failed => kit_is)
    (case ki_InvalidSign_InvalidKinds => kit_is)
    (case ki_InvalidSign_InvalidNumber => kit_is)
    (case ki_InvalidSign_InvalidPlace => kit_is)
    (case ki_InvalidSign_InvalidPlan => kit_is)
    (case ki_InvalidSign_InvalidPlayer => kit_is)
    (case ki_InvalidSign_InvalidRoad => kit_is)
    (case ki_InvalidSign_InvalidSign => kit_is)
    (case ki_InvalidSign_InvalidStretch => kit_is)
    (case ki_InvalidSign_InvalidText => kit_is)
    (case ki_InvalidSign_InvalidWay => kit_is)
    (case ki_InvalidSign_NothingToUndo => kit_is)
    (case ki_InvalidSign_RoadError => kit_is)
    (case ki_InvalidSign_TooMany => kit_is)
    (case ki_InvalidSign_ValueError => kit_is)
    (case ki_InvalidStretch_Failed => kit_is)
    (case ki_InvalidStretch_InvalidKinds => kit_is)
    (case ki_InvalidStretch_InvalidNumber => kit_is)
    (case ki_InvalidStretch_InvalidPlace => kit_is)
    (case ki_InvalidStretch_InvalidPlan => kit_is)
    (case ki_InvalidStretch_InvalidPlayer => kit_is)
    (case ki_InvalidStretch_InvalidRoad => kit_is)
    (case ki_InvalidStretch_InvalidSign => kit_is)
    (case ki_InvalidStretch_InvalidStretch => kit_is)
    (case ki_InvalidStretch_InvalidText => kit_is)
    (case ki_InvalidStretch_InvalidWay => kit_is)
    (case ki_InvalidStretch_NothingToUndo => kit_is)
    (case ki_InvalidStretch_RoadError => kit_is)
    (case ki_InvalidStretch_TooMany => kit_is)
    (case ki_InvalidStretch_ValueError => kit_is)
    (case ki_InvalidText_Failed => kit_is)
    (case ki_InvalidText_InvalidKinds => kit_is)
    (case ki_InvalidText_InvalidNumber => kit_is)
    (case ki_InvalidText_InvalidPlace => kit_is)
    (case ki_InvalidText_InvalidPlan => kit_is)
    (case ki_InvalidText_InvalidPlayer => kit_is)
    (case ki_InvalidText_InvalidRoad => kit_is)
    (case ki_InvalidText_InvalidSign => kit_is)
    (case ki_InvalidText_InvalidStretch => kit_is)
    (case ki_InvalidText_InvalidText => kit_is)
    (case ki_InvalidText_InvalidWay => kit_is)
    (case ki_InvalidText_NothingToUndo => kit_is)
    (case ki_InvalidText_RoadError => kit_is)
    (case ki_InvalidText_TooMany => kit_is)
    (case ki_InvalidText_ValueError => kit_is)
    (case ki_InvalidWay_Failed => kit_is)
    (case ki_InvalidWay_InvalidKinds => kit_is)
    (case ki_InvalidWay_InvalidNumber => kit_is)
    (case ki_InvalidWay_InvalidPlace => kit_is)
    (case ki_InvalidWay_InvalidPlan => kit_is)
    (case ki_InvalidWay_InvalidPlayer => kit_is)
    (case ki_InvalidWay_InvalidRoad => kit_is)
    (case ki_InvalidWay_InvalidSign => kit_is)
    (case ki_InvalidWay_InvalidStretch => kit_is)
    (case ki_InvalidWay_InvalidText => kit_is)
    (case ki_InvalidWay_InvalidWay => kit_is)
    (case ki_InvalidWay_NothingToUndo => kit_is)
    (case ki_InvalidWay_RoadError => kit_is)
    (case ki_InvalidWay_TooMany => kit_is)
    (case ki_InvalidWay_ValueError => kit_is)
    (case ki_NothingToUndo_Failed => kit_is)
    (case ki_NothingToUndo_InvalidKinds => kit_is)
    (case ki_NothingToUndo_InvalidNumber => kit_is)
    (case ki_NothingToUndo_InvalidPlace => kit_is)
    (case ki_NothingToUndo_InvalidPlan => kit_is)
    (case ki_NothingToUndo_InvalidPlayer => kit_is)
    (case ki_NothingToUndo_InvalidRoad => kit_is)
    (case ki_NothingToUndo_InvalidSign => kit_is)
    (case ki_NothingToUndo_InvalidStretch => kit_is)
    (case ki_NothingToUndo_InvalidText => kit_is)
    (case ki_NothingToUndo_InvalidWay => kit_is)
    (case ki_NothingToUndo_NothingToUndo => kit_is)
    (case ki_NothingToUndo_RoadError => kit_is)
    (case ki_NothingToUndo_TooMany => kit_is)
    (case ki_NothingToUndo_ValueError => kit_is)
    (case ki_RoadError_Failed => kit_is)
    (case ki_RoadError_InvalidKinds => kit_is)
    (case ki_RoadError_InvalidNumber => kit_is)
    (case ki_RoadError_InvalidPlace => kit_is)
    (case ki_RoadError_InvalidPlan => kit_is)
    (case ki_RoadError_InvalidPlayer => kit_is)
    (case ki_RoadError_InvalidRoad => kit_is)
    (case ki_RoadError_InvalidSign => kit_is)
    (case ki_RoadError_InvalidStretch => kit_is)
    (case ki_RoadError_InvalidText => kit_is)
    (case ki_RoadError_InvalidWay => kit_is)
    (case ki_RoadError_NothingToUndo => kit_is)
    (case ki_RoadError_RoadError => kit_is)
    (case ki_RoadError_TooMany => kit_is)
    (case ki_RoadError_ValueError => kit_is)
    (case ki_TooMany_Failed => kit_is)
    (case ki_TooMany_InvalidKinds => kit_is)
    (case ki_TooMany_InvalidNumber => kit_is)
    (case ki_TooMany_InvalidPlace => kit_is)
    (case ki_TooMany_InvalidPlan => kit_is)
    (case ki_TooMany_InvalidPlayer => kit_is)
    (case ki_TooMany_InvalidRoad => kit_is)
    (case ki_TooMany_InvalidSign => kit_is)
    (case ki_TooMany_InvalidStretch => kit_is)
    (case ki_TooMany_InvalidText => kit_is)
    (case ki_TooMany_InvalidWay => kit_is)
    (case ki_TooMany_NothingToUndo => kit_is)
    (case ki_TooMany_RoadError => kit_is)
    (case ki_TooMany_TooMany => kit_is)
    (case ki_TooMany_ValueError => kit_is)
    (case yga_TooMany => k_is)
    (case ygg_TooMany => k_is)
    (case yhd_TooMany => k_is)
    (case yga_InvalidText => k_is)
    (case ygg_InvalidText => k_is)
    (case yhd_InvalidText => k_is)
    (case yga_Failed => k_is)
    (case ygg_Failed => k_is)
    (case yhd_Failed => k_is)
