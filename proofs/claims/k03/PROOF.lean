import PyProof.Rows.All
import Wide.All
import OpenK.AllK
import Wide.FinOn
import PyProof.EqAt
import PyProof.EqKinds
import PyProof.TupleCall
import Open.SpecLaws
import HandS.ForMost
import HandS.ForExc
import HandS.TryMany
import HandS.Lambda
import HandS.Zip
import HandS.Conv
import KE.KDictKeyed
import KE.KDictPairs
import KE.KDictCopyH
import KE.KDictDisplayH
import HandS.TupAny
import HandS.TupMul
import HandS.TupLe
import HandS.Deep
import HandS.IsInst
import HandS.Flow
import HandS.Wide
import HandS.Strs
import HandS.Text
import KE.GoesZip
import KE.GoesMore
import HandS.RaiseMore
import HandS.MapJoin
import HandS.More
import HandS.Ends
import HandS.EndTab
import PySem.Challenge.RW_stoneroads_k03_signs_put_together
set_option Elab.async false
set_option linter.all false
set_option maxRecDepth 100000
set_option maxHeartbeats 4000000
/-! Mir1: data, stores, what they are in a heap; outcomes; how outcomes are put together. -/
namespace Mir
open PySem PySem.Spec PyProof.Rows L2

abbrev St := L2.St
/-- data without any object that is changed -/
inductive D where
  | non | bl (b : Bool) | int (i : Int) | str (x : Str) | tup (xs : List D) | lst (xs : List D) | dic (t : Bool) (ks : List NestedKey) (vs : List D) | scr (ns : List Int)
  deriving Inhabited
/-- what a name holds: data, or a reference to a cell of the store -/
inductive U where
  | d (x : D) | c (i : Nat) | t (us : List (D ⊕ Nat))
  deriving Inhabited
/-- an object that may be changed -/
inductive Cell where
  | lst (xs : List D)
  | dic (t : Bool) (ks : List NestedKey) (vs : List D)
  | ins (C : Str) (fs : List (Str × D))
  deriving Inhabited
abbrev Sto := List Cell
abbrev Env := List (Option U)
/-- an exception: its class, its attributes -/
structure Exn where
  cls : Str
  fs : Option (List (Str × D)) := none
inductive O (α : Type) where
  | ok (a : α) (S : Sto) | ex (e : Exn) (S : Sto) | un

namespace O
@[simp] def bind {α β : Type} (o : O α) (f : α → Sto → O β) : O β := match o with
  | .ok a S => f a S | .ex e S => .ex e S | .un => .un
end O
abbrev ME := Env → Sto → O U
abbrev MT := Env → Sto → O Bool
abbrev MA := Env → Sto → O (List U)
/-- outcomes of statements -/
inductive SO where
  | nx (ρ : Env) (S : Sto) | rt (u : U) (S : Sto) | bk (ρ : Env) (S : Sto) | ct (ρ : Env) (S : Sto) | ex (e : Exn) (ρ : Env) (S : Sto) | un
abbrev MS := Env → Sto → SO

/-- what stays the same through a law -/
structure Gc where
  P : Program
  w : World
  K : PySem.W.Frag
  mg : Str → Option Value
  T : List (Addr × Str)

/-! ### data in a heap; e: the cells' addresses -/
def kN : Key → NestedKey
  | .inl i => .num i
  | .inr x => .text x
mutual
/-- a value as a key -/
inductive RN (G : Gc) (H : Hp) : NestedKey → V → Prop
  | none : RN G H .none .non
  | bl (b : Bool) : RN G H (.num (if b = true then 1 else 0)) (.bl b)
  | num (i : Int) : RN G H (.num i) (.int i)
  | text (x : Str) : RN G H (.text x) (.str x)
  | tup {a : Addr} {xs : List V} {ks : List NestedKey} : SqT G.K H a xs → RNs G H ks xs → RN G H (.tup ks) (.ref a)
inductive RNs (G : Gc) (H : Hp) : List NestedKey → List V → Prop
  | nil : RNs G H [] []
  | cons {k : NestedKey} {v : V} {ks : List NestedKey} {vs : List V} : RN G H k v → RNs G H ks vs → RNs G H (k :: ks) (v :: vs)
end
/-- a dict whose keys are tuples: its keys, where they stand, its values -/
def dicN (P : Program) (w : World) (a : Addr) (xs : List (NestedKey × Addr × V)) : HO := .ext fun h => xs.length ≤ sizeLine ∧ (a == sysModules) = false ∧ ∃ us : List (NestedKey × Addr × Value),
  Paired (fun (p : NestedKey × Addr × V) (q : NestedKey × Addr × Value) => p.1 = q.1 ∧ p.2.1 = q.2.1 ∧ RelV p.2.2 q.2.2) xs us ∧
    ∃ o es ep, h.get? a = some o ∧ o.ExactDict ∧ o.data = .dict es ep ∧ es.toList = us.map (entryOfKey (nestedKind P w)) ∧ (us.map (·.1)).Nodup
/-- a dict: its keys, its values -/
inductive RD (G : Gc) (H : Hp) (a : Addr) : Bool → List NestedKey → List V → HO → Prop
  | k (ks : List Key) (xs : List V) : ks.length = xs.length → RD G H a false (ks.map kN) xs (.dK (ks.zip xs))
  | n (ts : List (NestedKey × Addr × V)) : (∀ t ∈ ts, RN G H t.1 (.ref t.2.1) ∧ t.1.depth ≤ 8) → RD G H a true (ts.map (·.1)) (ts.map (·.2.2)) (dicN G.P G.w a ts)
/-- the script: a list that nobody changes -/
def Sc (K : PySem.W.Frag) (H : Hp) (a : Addr) (ns : List Int) : Prop :=
  (∃ o, H a = some (.frz o (.lst (ns.map V.int)))) ∨
    ∃ (o : Obj) (its : Array Value) (n : Nat), K.lookup a = some o ∧ o.cls = .type "list" ∧ o.dict = none ∧ o.data = .seq its n ∧ its.size ≤ sizeLine ∧ Vals (ns.map V.int) its.toList
theorem Sc.sq {K : PySem.W.Frag} {H : Hp} {a : Addr} {ns : List Int} (h : Sc K H a ns) : SqL K H a (ns.map V.int) := by
  rcases h with h | h
  · exact .inl (.inr h)
  · exact .inr h
mutual
inductive RV (G : Gc) (e : List Addr) (H : Hp) : D → V → Prop
  | non : RV G e H .non .non
  | bl (b : Bool) : RV G e H (.bl b) (.bl b)
  | int (i : Int) : RV G e H (.int i) (.int i)
  | str (x : Str) : RV G e H (.str x) (.str x)
  | tup {a : Addr} {xs : List V} {ds : List D} : SqT G.K H a xs → RVs G e H ds xs → RV G e H (.tup ds) (.ref a)
  | lst {a : Addr} {xs : List V} {ds : List D} : H a = some (.lst xs) → a ∉ e → RVs G e H ds xs → RV G e H (.lst ds) (.ref a)
  | scr {a : Addr} {ns : List Int} : Sc G.K H a ns → RV G e H (.scr ns) (.ref a)
  | dic {a : Addr} {o : HO} {t : Bool} {ks : List NestedKey} {xs : List V} {ds : List D} : H a = some o → a ∉ e → RD G H a t ks xs o → RVs G e H ds xs → RV G e H (.dic t ks ds) (.ref a)
inductive RVs (G : Gc) (e : List Addr) (H : Hp) : List D → List V → Prop
  | nil : RVs G e H [] []
  | cons {d : D} {v : V} {ds : List D} {vs : List V} : RV G e H d v → RVs G e H ds vs → RVs G e H (d :: ds) (v :: vs)
end
/-- the same, the outermost object may be a cell -/
inductive RT (G : Gc) (e : List Addr) (H : Hp) : D → V → Prop
  | of {d : D} {v : V} : RV G e H d v → RT G e H d v
  | lst {a : Addr} {xs : List V} {ds : List D} : H a = some (.lst xs) → RVs G e H ds xs → RT G e H (.lst ds) (.ref a)
  | dic {a : Addr} {o : HO} {t : Bool} {ks : List NestedKey} {xs : List V} {ds : List D} : H a = some o → RD G H a t ks xs o → RVs G e H ds xs → RT G e H (.dic t ks ds) (.ref a)
/-- the items of a tuple that is handed back: data, cells -/
inductive RW (G : Gc) (e m : List Addr) (H : Hp) : List (D ⊕ Nat) → List V → Prop
  | nil : RW G e m H [] []
  | d {x : D} {v : V} {ds : List (D ⊕ Nat)} {vs : List V} : RV G e H x v → RW G e m H ds vs → RW G e m H (.inl x :: ds) (v :: vs)
  | c {i : Nat} {a : Addr} {ds : List (D ⊕ Nat)} {vs : List V} : m[i]? = some a → RW G e m H ds vs → RW G e m H (.inr i :: ds) (.ref a :: vs)
/-- what a name holds -/
inductive RU (G : Gc) (e m : List Addr) (H : Hp) : U → V → Prop
  | d {x : D} {v : V} : RV G e H x v → RU G e m H (.d x) v
  | c {i : Nat} {a : Addr} : m[i]? = some a → RU G e m H (.c i) (.ref a)
  | t {a : Addr} {us : List (D ⊕ Nat)} {xs : List V} : SqT G.K H a xs → RW G e m H us xs → RU G e m H (.t us) (.ref a)
inductive RUs (G : Gc) (e m : List Addr) (H : Hp) : List U → List V → Prop
  | nil : RUs G e m H [] []
  | cons {d : U} {v : V} {ds : List U} {vs : List V} : RU G e m H d v → RUs G e m H ds vs → RUs G e m H (d :: ds) (v :: vs)
/-- the fields of an instance -/
inductive RF (G : Gc) (e : List Addr) (H : Hp) : List (Str × D) → List (Str × V) → Prop
  | nil : RF G e H [] []
  | cons {f : Str} {d : D} {v : V} {ds : List (Str × D)} {vs : List (Str × V)} : RV G e H d v → RF G e H ds vs → RF G e H ((f, d) :: ds) ((f, v) :: vs)
inductive RC (G : Gc) (e : List Addr) (H : Hp) (a : Addr) : Cell → HO → Prop
  | lst {xs : List V} {ds : List D} : RVs G e H ds xs → RC G e H a (.lst ds) (.lst xs)
  | dic {o : HO} {t : Bool} {ks : List NestedKey} {xs : List V} {ds : List D} : RD G H a t ks xs o → RVs G e H ds xs → RC G e H a (.dic t ks ds) o
  | ins {x : Str} {C dx : Addr} {fs : List (Str × D)} {gs : List (Str × V)} : G.mg x = some (.ref C) → H dx = some (.own a) → RF G e H fs gs → RC G e H a (.ins x fs) (.ins C dx gs)
/-- a store in a heap -/
structure RS (G : Gc) (e m : List Addr) (H : Hp) (S : Sto) : Prop where
  len : m.length = S.length
  nd : m.Nodup
  ins : ∀ b ∈ m, b ∈ e
  at' : ∀ (i : Nat) (a : Addr) (c : Cell), m[i]? = some a → S[i]? = some c → ∃ o, H a = some o ∧ RC G e H a c o
inductive RE (G : Gc) (e m : List Addr) (H : Hp) : Env → St → Prop
  | nil : RE G e m H [] []
  | em {o : Option V} {ρ : Env} {σ : St} : RE G e m H ρ σ → RE G e m H (none :: ρ) (o :: σ)
  | cns {u : U} {v : V} {ρ : Env} {σ : St} : RU G e m H u v → RE G e m H ρ σ → RE G e m H (some u :: ρ) (some v :: σ)
/-- there is an object that is no table of code objects -/
def Nt (H : Hp) (b : Addr) : Prop := ∃ o, H b = some o ∧ ∀ ps, o ≠ .tbl ps
structure Rp (G : Gc) (x m : List Addr) (H : Hp) (ρ : Env) (S : Sto) (σ : St) : Prop where
  env : RE G (x ++ m) m H ρ σ
  sto : RS G (x ++ m) m H S
  ex : ∀ b ∈ x, Nt H b
  tab : LamX.Tabs G.T H

/-- from one heap to another: but for the cells all stays -/
structure Ext (G : Gc) (m : List Addr) (H : Hp) (m' : List Addr) (H' : Hp) : Prop where
  keep : ∀ b o, H b = some o → b ∉ m → (∀ ps, o ≠ .tbl ps) → H' b = some o
  tups : ∀ b xs, H b = some (.tup xs) → H' b = some (.tup xs)
  frzs : ∀ b o u, H b = some (.frz o u) → H' b = some (.frz o u)
  owns : ∀ b a, H b = some (.own a) → H' b = some (.own a)
  live : ∀ b, Nt H b → Nt H' b
  pre : ∃ new, m' = m ++ new ∧ ∀ b ∈ new, ¬ Nt H b
  tab : LamX.Tabs G.T H → LamX.Tabs G.T H'

theorem Ext.refl {G : Gc} {m : List Addr} {H : Hp} : Ext G m H m H :=
  ⟨fun _ _ h _ _ => h, fun _ _ h => h, fun _ _ _ h => h, fun _ _ h => h, fun _ h => h, ⟨[], by simp, fun _ h => by cases h⟩, fun h => h⟩
theorem Ext.trans {G : Gc} {m m1 m2 : List Addr} {H H1 H2 : Hp} (a : Ext G m H m1 H1) (b : Ext G m1 H1 m2 H2) : Ext G m H m2 H2 := by
  obtain ⟨n1, e1, f1⟩ := a.pre
  obtain ⟨n2, e2, f2⟩ := b.pre
  refine ⟨fun c o h hc ht => b.keep c o (a.keep c o h hc ht) ?_ ht, fun c xs h => b.tups c xs (a.tups c xs h), fun c o u h => b.frzs c o u (a.frzs c o u h), fun c x h => b.owns c x (a.owns c x h), fun c h => b.live c (a.live c h), ⟨n1 ++ n2, by rw [e2, e1, List.append_assoc], fun c hc => ?_⟩, fun h => b.tab (a.tab h)⟩
  · rw [e1]
    intro hm
    rcases List.mem_append.mp hm with hm | hm
    · exact hc hm
    · exact f1 c hm ⟨o, h, ht⟩
  · rcases List.mem_append.mp hc with hc | hc
    · exact f1 c hc
    · exact fun q => f2 c hc (a.live c q)

/-! ### what stays -/
section
variable {G : Gc} {e e' x m m' : List Addr} {H H' : Hp}
/-- data stay where all that is no cell stays -/
structure Keep (G : Gc) (e : List Addr) (H : Hp) (e' : List Addr) (H' : Hp) : Prop where
  tup : ∀ a xs, SqT G.K H a xs → SqT G.K H' a xs
  lst : ∀ a ns, Sc G.K H a ns → Sc G.K H' a ns
  lsk : ∀ a xs, H a = some (.lst xs) → a ∉ e → H' a = some (.lst xs) ∧ a ∉ e'
  dic : ∀ a o t ks xs, H a = some o → a ∉ e → RD G H a t ks xs o → H' a = some o ∧ a ∉ e' ∧ RD G H' a t ks xs o
mutual
theorem RN.ext (k : ∀ a xs, SqT G.K H a xs → SqT G.K H' a xs) : ∀ {d : NestedKey} {v : V}, RN G H d v → RN G H' d v
  | _, _, .none => .none
  | _, _, .bl b => .bl b
  | _, _, .num i => .num i
  | _, _, .text x => .text x
  | _, _, .tup h r => .tup (k _ _ h) (RNs.ext k r)
theorem RNs.ext (k : ∀ a xs, SqT G.K H a xs → SqT G.K H' a xs) : ∀ {ds : List NestedKey} {vs : List V}, RNs G H ds vs → RNs G H' ds vs
  | _, _, .nil => .nil
  | _, _, .cons r t => .cons (RN.ext k r) (RNs.ext k t)
end
theorem RD.ext (k : ∀ a xs, SqT G.K H a xs → SqT G.K H' a xs) {a : Addr} {t : Bool} {ks : List NestedKey} {xs : List V} {o : HO} (r : RD G H a t ks xs o) : RD G H' a t ks xs o := by
  cases r with
  | k kk xs h => exact .k kk xs h
  | n ts h => exact .n ts fun t ht => ⟨(h t ht).1.ext k, (h t ht).2⟩
mutual
theorem RV.keep (k : Keep G e H e' H') : ∀ {d : D} {v : V}, RV G e H d v → RV G e' H' d v
  | _, _, .non => .non
  | _, _, .bl b => .bl b
  | _, _, .int i => .int i
  | _, _, .str x => .str x
  | _, _, .tup h r => .tup (k.tup _ _ h) (RVs.keep k r)
  | _, _, .lst h n r => .lst (k.lsk _ _ h n).1 (k.lsk _ _ h n).2 (RVs.keep k r)
  | _, _, .scr h => .scr (k.lst _ _ h)
  | _, _, .dic h n rd r => .dic (k.dic _ _ _ _ _ h n rd).1 (k.dic _ _ _ _ _ h n rd).2.1 (k.dic _ _ _ _ _ h n rd).2.2 (RVs.keep k r)
theorem RVs.keep (k : Keep G e H e' H') : ∀ {ds : List D} {vs : List V}, RVs G e H ds vs → RVs G e' H' ds vs
  | _, _, .nil => .nil
  | _, _, .cons r t => .cons (RV.keep k r) (RVs.keep k t)
end
theorem Rd.ext {a : Addr} {u : HO} (E : Ext G m H m' H') (h : Rd H a u) (hm : a ∉ m) (ht : ∀ ps, u ≠ .tbl ps) : Rd H' a u := by
  rcases h with h | ⟨o, h⟩
  · exact .inl (E.keep _ _ h hm ht)
  · exact .inr ⟨o, E.frzs _ _ _ h⟩
theorem rd_some {a : Addr} {u : HO} (h : Rd H a u) : ∃ o, H a = some o := by
  rcases h with h | ⟨o, h⟩ <;> exact ⟨_, h⟩
theorem RD.notbl {a : Addr} {t : Bool} {ks : List NestedKey} {xs : List V} {o : HO} (h : RD G H a t ks xs o) : ∀ ps, o ≠ .tbl ps := by
  cases h <;> intro ps q <;> cases q
theorem SqT.ext {a : Addr} {xs : List V} (E : Ext G m H m' H') (h : SqT G.K H a xs) : SqT G.K H' a xs := by
  rcases h with (h | ⟨o, h⟩) | h
  · exact .inl (.inl (E.tups _ _ h))
  · exact .inl (.inr ⟨o, E.frzs _ _ _ h⟩)
  · exact .inr h
theorem Ext.notin {a : Addr} {o : HO} (E : Ext G m H m' H') (h : H a = some o) (ht : ∀ ps, o ≠ .tbl ps) (hm : a ∉ x ++ m) : a ∉ x ++ m' := by
  obtain ⟨n, e1, f⟩ := E.pre
  rw [e1]
  intro q
  rcases List.mem_append.mp q with q | q
  · exact hm (List.mem_append_left _ q)
  · rcases List.mem_append.mp q with q | q
    · exact hm (List.mem_append_right _ q)
    · exact f a q ⟨o, h, ht⟩
theorem Sc.ext {a : Addr} {ns : List Int} (E : Ext G m H m' H') (h : Sc G.K H a ns) : Sc G.K H' a ns := by
  rcases h with ⟨o, h⟩ | h
  · exact .inl ⟨o, E.frzs _ _ _ h⟩
  · exact .inr h
theorem Ext.kp (E : Ext G m H m' H') : Keep G (x ++ m) H (x ++ m') H' where
  tup := fun a xs h => SqT.ext E h
  lst := fun a ns h => Sc.ext E h
  lsk := fun a xs h n => ⟨E.keep _ _ h (fun z => n (List.mem_append_right _ z)) (fun ps z => by cases z), E.notin h (fun ps z => by cases z) n⟩
  dic := fun a o t ks xs h n r => by
    exact ⟨E.keep _ _ h (fun z => n (List.mem_append_right _ z)) r.notbl, E.notin h r.notbl n, r.ext fun a xs h => SqT.ext E h⟩
theorem RW.ext (E : Ext G m H m' H') : ∀ {us : List (D ⊕ Nat)} {vs : List V}, RW G (x ++ m) m H us vs → RW G (x ++ m') m' H' us vs
  | _, _, .nil => .nil
  | _, _, .d r t => .d (r.keep E.kp) (RW.ext E t)
  | _, _, .c h t => by
    obtain ⟨n, e1, f⟩ := E.pre
    exact .c (by rw [e1, List.getElem?_append_left (List.getElem?_eq_some_iff.mp h).1]; exact h) (RW.ext E t)
theorem RU.ext (E : Ext G m H m' H') {u : U} {v : V} (r : RU G (x ++ m) m H u v) : RU G (x ++ m') m' H' u v := by
  cases r with
  | d r => exact .d (r.keep E.kp)
  | c h =>
    obtain ⟨n, e1, f⟩ := E.pre
    exact .c (by rw [e1, List.getElem?_append_left (List.getElem?_eq_some_iff.mp h).1]; exact h)
  | t h r => exact .t (E.kp.tup (e := x ++ m) (e' := x ++ m') _ _ h) (r.ext E)
theorem RUs.ext (E : Ext G m H m' H') : ∀ {us : List U} {vs : List V}, RUs G (x ++ m) m H us vs → RUs G (x ++ m') m' H' us vs
  | _, _, .nil => .nil
  | _, _, .cons r t => .cons (RU.ext E r) (RUs.ext E t)
theorem RE.ext (E : Ext G m H m' H') : ∀ {ρ : Env} {σ : St}, RE G (x ++ m) m H ρ σ → RE G (x ++ m') m' H' ρ σ
  | _, _, .nil => .nil
  | _, _, .em t => .em (RE.ext E t)
  | _, _, .cns r t => .cns (RU.ext E r) (RE.ext E t)
theorem Rp.ext {ρ : Env} {S S' : Sto} {σ : St} (p : Rp G x m H ρ S σ) (E : Ext G m H m' H') (r : RS G (x ++ m') m' H' S') : Rp G x m' H' ρ S' σ :=
  ⟨p.env.ext E, r, fun b hb => E.live b (p.ex b hb), E.tab p.tab⟩
end

/-! ### what is wanted behind an outcome -/
section
variable {G : Gc} {W : WX} {x m m1 : List Addr} {σ : St} {H H1 : Hp}
/-- an exception: its class, its attributes -/
def RX (G : Gc) (e : List Addr) (H : Hp) (ex : Exn) (cls : Value) (d : Option Addr) : Prop :=
  ∃ C, cls = .ref C ∧ G.mg ex.cls = some (.ref C) ∧ match ex.fs with
    | none => True
    | some fs => ∃ a gs, d = some a ∧ H a = some (.xd gs) ∧ RF G e H fs gs
def Post {α : Type} (G : Gc) (W : WX) (x m : List Addr) (σ : St) (H : Hp) (o : O α) (Q : α → Sto → List Addr → Hp → Prop) : Prop := match o with
  | .ok a S' => ∀ m' H', Ext G m H m' H' → RS G (x ++ m') m' H' S' → Q a S' m' H'
  | .ex e S' => ∀ m' H' cls d, Ext G m H m' H' → RS G (x ++ m') m' H' S' → RX G (x ++ m') H' e cls d → W cls d σ H'
  | .un => False
theorem Post.shift {α : Type} {o : O α} {Q : α → Sto → List Addr → Hp → Prop} (E : Ext G m H m1 H1) (h : Post G W x m σ H o Q) : Post G W x m1 σ H1 o Q := by
  cases o with
  | ok a S => exact fun m' H' e r => h m' H' (E.trans e) r
  | ex e S => exact fun m' H' cls d e r rx => h m' H' cls d (E.trans e) r rx
  | un => exact h
theorem Post.bind {α β : Type} {o : O α} {f : α → Sto → O β} {Q : β → Sto → List Addr → Hp → Prop} (h : Post G W x m σ H (o.bind f) Q) :
    Post G W x m σ H o fun a S1 m1 H1 => Ext G m H m1 H1 ∧ RS G (x ++ m1) m1 H1 S1 ∧ Post G W x m1 σ H1 (f a S1) Q := by
  cases o with
  | ok a S => exact fun m' H' e r => ⟨e, r, Post.shift e h⟩
  | ex e S => exact h
  | un => exact h
theorem Post.mono {α : Type} {o : O α} {Q Q' : α → Sto → List Addr → Hp → Prop} (h : Post G W x m σ H o Q) (q : ∀ a S m' H', Ext G m H m' H' → RS G (x ++ m') m' H' S → Q a S m' H' → Q' a S m' H') : Post G W x m σ H o Q' := by
  cases o with
  | ok a S => exact fun m' H' e r => q _ _ _ _ e r (h m' H' e r)
  | ex e S => exact h
  | un => exact h
end
/-- the readings -/
def tE (G : Gc) (W : WX) (f : ME) : TE := fun σ H Q => ∃ x m ρ S, Rp G x m H ρ S σ ∧ Post G W x m σ H (f ρ S) fun u _ m' H' => ∀ v, RU G (x ++ m') m' H' u v → Q v H'
def tT (G : Gc) (W : WX) (f : MT) : TT := fun σ H Q => ∃ x m ρ S, Rp G x m H ρ S σ ∧ Post G W x m σ H (f ρ S) fun b _ _ H' => Q b H'
def tA (G : Gc) (W : WX) (f : MA) : TA := fun σ H Q => ∃ x m ρ S, Rp G x m H ρ S σ ∧ Post G W x m σ H (f ρ S) fun us _ m' H' => ∀ vs, RUs G (x ++ m') m' H' us vs → Q vs H'
/-- behind a statement -/
def PostS (G : Gc) (W : WX) (x m : List Addr) (H : Hp) (o : SO) (Dn : Ends) : Prop := match o with
  | .nx ρ' S' => ∀ m' H' σ', Ext G m H m' H' → Rp G x m' H' ρ' S' σ' → Dn.nx σ' H'
  | .rt u S' => ∀ m' H' v, Ext G m H m' H' → RS G (x ++ m') m' H' S' → RU G (x ++ m') m' H' u v → Dn.rt v H'
  | .bk ρ' S' => ∀ m' H' σ', Ext G m H m' H' → Rp G x m' H' ρ' S' σ' → Dn.bk σ' H'
  | .ct ρ' S' => ∀ m' H' σ', Ext G m H m' H' → Rp G x m' H' ρ' S' σ' → Dn.ct σ' H'
  | .ex e ρ' S' => ∀ m' H' σ' cls d, Ext G m H m' H' → Rp G x m' H' ρ' S' σ' → RX G (x ++ m') H' e cls d → W cls d σ' H'
  | .un => False
def tS (G : Gc) (W : WX) (f : MS) : TS := fun Dn σ H => ∃ x m ρ S, Rp G x m H ρ S σ ∧ PostS G W x m H (f ρ S) Dn
theorem PostS.shift {G : Gc} {W : WX} {x m m1 : List Addr} {H H1 : Hp} {o : SO} {Dn : Ends} (E : Ext G m H m1 H1) (h : PostS G W x m H o Dn) : PostS G W x m1 H1 o Dn := by
  cases o with
  | nx ρ S => exact fun m' H' σ' e p => h m' H' σ' (E.trans e) p
  | rt u S => exact fun m' H' v e p r => h m' H' v (E.trans e) p r
  | bk ρ S => exact fun m' H' σ' e p => h m' H' σ' (E.trans e) p
  | ct ρ S => exact fun m' H' σ' e p => h m' H' σ' (E.trans e) p
  | ex e ρ S => exact fun m' H' σ' cls d E' p r => h m' H' σ' cls d (E.trans E') p r
  | un => exact h

/-! ### a weaker reading -/
theorem pe_mono {X : Cx} {e : Expr} {t t' : TE} (h : PE X e t) (q : ∀ σ H Q, t' σ H Q → t σ H Q) : PE X e t' := ⟨fun pins s σ H Q I w => h.run pins s σ H Q I (q σ H Q w)⟩
theorem pt_mono {X : Cx} {e : Expr} {t t' : TT} (h : PT X e t) (q : ∀ σ H Q, t' σ H Q → t σ H Q) : PT X e t' := ⟨fun pins s σ H Q I w => h.run pins s σ H Q I (q σ H Q w)⟩
theorem pa_mono {X : Cx} {e : List Expr} {t t' : TA} (h : PA X e t) (q : ∀ σ H Q, t' σ H Q → t σ H Q) : PA X e t' := ⟨fun pos pins s σ H Q I w => h.run pos pins s σ H Q I (q σ H Q w)⟩
theorem ps_mono {X : Cx} {e : Stmt} {t t' : TS} (h : PS X e t) (q : ∀ Dn σ H, t' Dn σ H → t Dn σ H) : PS X e t' := ⟨fun pins s σ H Dn I w => h.run pins s σ H Dn I (q Dn σ H w)⟩
theorem pss_mono {X : Cx} {e : List Stmt} {t t' : TS} (h : PSs X e t) (q : ∀ Dn σ H, t' Dn σ H → t Dn σ H) : PSs X e t' := ⟨fun pins s σ H Dn I w => h.run pins s σ H Dn I (q Dn σ H w)⟩
end Mir

/-! Mir2: expressions: names, constants, displays, operators, comparisons, truth. -/
namespace Mir
open PySem PySem.Spec PyProof.Rows L2

abbrev gOf (X : Cx) (T : List (Addr × Str)) : Gc := ⟨X.prog, X.w, X.K, X.mg, T⟩

/-! ### reading cells -/
def rd (S : Sto) : U → Option D
  | .d x => some x
  | .c i => match S[i]? with
    | some (.lst xs) => some (.lst xs)
    | some (.dic t ks vs) => some (.dic t ks vs)
    | _ => none
  | .t _ => none
def rds (S : Sto) : List U → Option (List D)
  | [] => some []
  | u :: us => match rd S u, rds S us with
    | some d, some ds => some (d :: ds)
    | _, _ => none
def pures : List U → Option (List D)
  | [] => some []
  | .d x :: us => match pures us with
    | some ds => some (x :: ds)
    | none => none
  | .c _ :: _ => none
  | .t _ :: _ => none
def purs : U → Option D
  | .d x => some x
  | .c _ => none
  | .t _ => none
inductive RTs (G : Gc) (e : List Addr) (H : Hp) : List D → List V → Prop
  | nil : RTs G e H [] []
  | cons {d : D} {v : V} {ds : List D} {vs : List V} : RT G e H d v → RTs G e H ds vs → RTs G e H (d :: ds) (v :: vs)
section
variable {G : Gc} {e m : List Addr} {H : Hp} {S : Sto}
theorem RU.rt {u : U} {v : V} {d : D} (r : RU G e m H u v) (s : RS G e m H S) (h : rd S u = some d) : RT G e H d v := by
  cases r with
  | d r => simp only [rd, Option.some.injEq] at h; subst h; exact .of r
  | @c i a ha =>
    unfold rd at h
    split at h
    · rename_i x hx
      cases hx
    · rename_i j hx
      cases hx
      split at h
      · rename_i xs hs
        cases h
        obtain ⟨o, h1, h2⟩ := s.at' i a _ ha hs
        cases h2 with
        | lst q => exact .lst h1 q
      · rename_i t ks vs hs
        cases h
        obtain ⟨o, h1, h2⟩ := s.at' i a _ ha hs
        cases h2 with
        | dic q1 q2 => exact .dic h1 q1 q2
      · cases h
    · cases h
  | t _ _ => cases h
theorem RUs.rts (s : RS G e m H S) : ∀ {us : List U} {vs : List V} {ds : List D}, RUs G e m H us vs → rds S us = some ds → RTs G e H ds vs
  | _, _, _, .nil, h => by simp only [rds, Option.some.injEq] at h; subst h; exact .nil
  | _, _, _, .cons r t, h => by
    unfold rds at h
    split at h
    · rename_i d ds h1 h2
      cases h
      exact .cons (r.rt s h1) (RUs.rts s t h2)
    · cases h
theorem RUs.pure : ∀ {us : List U} {vs : List V} {ds : List D}, RUs G e m H us vs → pures us = some ds → RVs G e H ds vs
  | _, _, _, .nil, h => by simp only [pures, Option.some.injEq] at h; subst h; exact .nil
  | _, _, _, .cons (.d r) t, h => by
    unfold pures at h
    split at h
    · rename_i ds h1
      cases h
      exact .cons r (RUs.pure t h1)
    · cases h
  | _, _, _, .cons (.c _) t, h => by simp [pures] at h
  | _, _, _, .cons (.t (us := us) _ _) t, h => by simp [pures] at h
theorem RVs.length : ∀ {ds : List D} {vs : List V}, RVs G e H ds vs → ds.length = vs.length
  | _, _, .nil => rfl
  | _, _, .cons _ t => by simp [RVs.length t]
theorem RUs.length : ∀ {ds : List U} {vs : List V}, RUs G e m H ds vs → ds.length = vs.length
  | _, _, .nil => rfl
  | _, _, .cons _ t => by simp [RUs.length t]
theorem pures_len : ∀ {us : List U} {ds : List D}, pures us = some ds → ds.length = us.length
  | [], _, h => by simp [pures] at h; subst h; rfl
  | .d x :: us, _, h => by
    unfold pures at h
    split at h
    · rename_i ds h1
      cases h
      simp [pures_len h1]
    · cases h
  | .c _ :: us, _, h => by simp [pures] at h
  | .t _ :: us, _, h => by simp [pures] at h
end
section
variable {G : Gc} {e m : List Addr} {H : Hp}
theorem RVs.get : ∀ {ds : List D} {vs : List V} {i : Nat} {d : D}, RVs G e H ds vs → ds[i]? = some d → ∃ v, vs[i]? = some v ∧ RV G e H d v
  | _, _, _, _, .nil, h => by simp at h
  | _, _, 0, _, .cons r _, h => by simp at h; subst h; exact ⟨_, rfl, r⟩
  | _, _, i + 1, _, .cons _ t, h => by
    obtain ⟨v, h1, h2⟩ := RVs.get (i := i) t (by simpa using h)
    exact ⟨v, by simpa using h1, h2⟩
theorem RVs.len : ∀ {ds : List D} {vs : List V}, RVs G e H ds vs → ds.length = vs.length
  | _, _, .nil => rfl
  | _, _, .cons _ t => by simp [RVs.len t]
theorem RVs.append : ∀ {ds : List D} {vs : List V} {ds' : List D} {vs' : List V}, RVs G e H ds vs → RVs G e H ds' vs' → RVs G e H (ds ++ ds') (vs ++ vs')
  | _, _, _, _, .nil, r => r
  | _, _, _, _, .cons r t, q => .cons r (RVs.append t q)
theorem RVs.take : ∀ {ds : List D} {vs : List V} (n : Nat), RVs G e H ds vs → RVs G e H (ds.take n) (vs.take n)
  | _, _, 0, _ => .nil
  | _, _, _ + 1, .nil => .nil
  | _, _, n + 1, .cons r t => .cons r (RVs.take n t)
theorem RVs.drop : ∀ {ds : List D} {vs : List V} (n : Nat), RVs G e H ds vs → RVs G e H (ds.drop n) (vs.drop n)
  | _, _, 0, r => r
  | _, _, _ + 1, .nil => .nil
  | _, _, n + 1, .cons _ t => RVs.drop n t
theorem RVs.flat {ds : List D} {vs : List V} (r : RVs G e H ds vs) : ∀ k : Nat, RVs G e H (List.replicate k ds).flatten (List.replicate k vs).flatten
  | 0 => .nil
  | k + 1 => by
    simp only [List.replicate_succ, List.flatten_cons]
    exact r.append (RVs.flat r k)
theorem RVs.set {d : D} {v : V} (r : RV G e H d v) : ∀ {ds : List D} {vs : List V} (i : Nat), RVs G e H ds vs → RVs G e H (ds.set i d) (vs.set i v)
  | _, _, _, .nil => .nil
  | _, _, 0, .cons _ t => .cons r t
  | _, _, i + 1, .cons q t => .cons q (RVs.set r i t)
theorem RE.get : ∀ {ρ : Env} {σ : St} {i : Nat} {u : U}, RE G e m H ρ σ → ρ[i]? = some (some u) → ∃ v, σ[i]? = some (some v) ∧ RU G e m H u v
  | _, _, _, _, .nil, h => by simp at h
  | _, _, 0, _, .em _, h => by simp at h
  | _, _, 0, _, .cns r _, h => by simp at h; subst h; exact ⟨_, rfl, r⟩
  | _, _, i + 1, _, .em t, h => by
    obtain ⟨v, h1, h2⟩ := RE.get (i := i) t (by simpa using h)
    exact ⟨v, by simpa using h1, h2⟩
  | _, _, i + 1, _, .cns _ t, h => by
    obtain ⟨v, h1, h2⟩ := RE.get (i := i) t (by simpa using h)
    exact ⟨v, by simpa using h1, h2⟩
theorem RE.set {u : U} {v : V} (r : RU G e m H u v) : ∀ {ρ : Env} {σ : St} (i : Nat), RE G e m H ρ σ → RE G e m H (ρ.set i (some u)) (σ.set i (some v))
  | _, _, _, .nil => .nil
  | _, _, 0, .em t => .cns r t
  | _, _, 0, .cns _ t => .cns r t
  | _, _, i + 1, .em t => .em (RE.set r i t)
  | _, _, i + 1, .cns q t => .cns q (RE.set r i t)
/-- names that hold nothing of use any more -/
theorem RE.wipe1 : ∀ {ρ : Env} {σ : St} (i : Nat), RE G e m H ρ σ → RE G e m H (ρ.set i none) σ
  | _, _, _, .nil => .nil
  | _, _, 0, .em t => .em t
  | _, _, 0, .cns _ t => .em t
  | _, _, i + 1, .em t => .em (RE.wipe1 i t)
  | _, _, i + 1, .cns q t => .cns q (RE.wipe1 i t)
theorem RV.none_of {d : D} {v : V} (r : RV G e H d v) : decide (v = V.non) = (match d with | .non => true | _ => false) := by
  cases r <;> simp
theorem Rd.nn {a : Addr} {o : HO} {e : List Addr} (h : Rd H a o) : H a ≠ none := by
  rcases h with h | ⟨o', h⟩ <;> rw [h] <;> simp
end

/-! ### new objects -/
section
variable {G : Gc} {x m e : List Addr} {H : Hp} {p : Addr} {o : HO}
theorem Ext.new (h : H p = none) : Ext G m H m (upd H p o) where
  keep := fun b u q _ _ => by rw [upd_ne (ne_of_none q h)]; exact q
  tups := fun b u q => by rw [upd_ne (ne_of_none q h)]; exact q
  frzs := fun b u w q => by rw [upd_ne (ne_of_none q h)]; exact q
  owns := fun b u q => by rw [upd_ne (ne_of_none q h)]; exact q
  live := fun b ⟨u, q, n⟩ => ⟨u, by rw [upd_ne (ne_of_none q h)]; exact q, n⟩
  pre := ⟨[], by simp, fun _ z => by cases z⟩
  tab := fun t => t.ext fun b u q => by rw [upd_ne (ne_of_none q h)]; exact q
theorem sqt_new (h : H p = none) {a : Addr} {xs : List V} (q : SqT G.K H a xs) : SqT G.K (upd H p o) a xs := SqT.ext (G := G) (m := []) (m' := []) (Ext.new h) q
theorem kp_new (h : H p = none) (he : ∀ b ∈ e, ∃ u, H b = some u) : Keep G e H e (upd H p o) where
  tup := fun a xs q => sqt_new h q
  lst := fun a ns q => Sc.ext (G := G) (m := []) (m' := []) (Ext.new h) q
  lsk := fun a xs q n => ⟨by rw [upd_ne (ne_of_none q h)]; exact q, n⟩
  dic := fun a u t ks xs q n r => ⟨by rw [upd_ne (ne_of_none q h)]; exact q, n, r.ext fun _ _ z => sqt_new h z⟩
theorem new_out (h : H p = none) (he : ∀ b ∈ e, ∃ u, H b = some u) : p ∉ e := fun z => by
  obtain ⟨u, q⟩ := he p z
  rw [h] at q; cases q
theorem RV.newTup {ds : List D} {vs : List V} (r : RVs G e H ds vs) (h : H p = none) (he : ∀ b ∈ e, ∃ u, H b = some u) : RV G e (upd H p (.tup vs)) (.tup ds) (.ref p) :=
  .tup (.inl (.inl upd_same)) (r.keep (kp_new h he))
theorem RV.newLst {ds : List D} {vs : List V} (r : RVs G e H ds vs) (h : H p = none) (he : ∀ b ∈ e, ∃ u, H b = some u) : RV G e (upd H p (.lst vs)) (.lst ds) (.ref p) :=
  .lst upd_same (new_out h he) (r.keep (kp_new h he))
theorem RV.newDic {o : HO} {t : Bool} {ks : List NestedKey} {ds : List D} {vs : List V} (r : RVs G e H ds vs) (q : RD G H p t ks vs o) (h : H p = none) (he : ∀ b ∈ e, ∃ u, H b = some u) : RV G e (upd H p o) (.dic t ks ds) (.ref p) :=
  .dic upd_same (new_out h he) (q.ext fun _ _ z => sqt_new h z) (r.keep (kp_new h he))
theorem RS.live {S : Sto} {a : Addr} (r : RS G e m H S) (h : a ∈ m) : ∃ o, H a = some o := by
  obtain ⟨i, hi, e1⟩ := List.mem_iff_getElem.mp h
  have hl : i < S.length := by rw [← r.len]; exact hi
  obtain ⟨o, h1, _⟩ := r.at' i a S[i] (by rw [List.getElem?_eq_getElem hi, e1]) (List.getElem?_eq_getElem hl)
  exact ⟨o, h1⟩
theorem Rp.trk {ρ : Env} {S : Sto} {σ : St} (p : Rp G x m H ρ S σ) : ∀ b ∈ x ++ m, ∃ o, H b = some o := fun b hb => by
  rcases List.mem_append.mp hb with hb | hb
  · obtain ⟨o, q, _⟩ := p.ex b hb
    exact ⟨o, q⟩
  · exact p.sto.live hb
theorem RS.nt {S : Sto} {a : Addr} (r : RS G e m H S) (h : a ∈ m) : Nt H a := by
  obtain ⟨i, hi, e1⟩ := List.mem_iff_getElem.mp h
  have hl : i < S.length := by rw [← r.len]; exact hi
  obtain ⟨o, h1, h2⟩ := r.at' i a S[i] (by rw [List.getElem?_eq_getElem hi, e1]) (List.getElem?_eq_getElem hl)
  refine ⟨o, h1, ?_⟩
  generalize S[i] = c at h2
  cases h2 with
  | lst _ => exact fun ps z => by cases z
  | dic q _ => exact q.notbl
  | ins _ _ _ => exact fun ps z => by cases z
theorem Rp.trkN {ρ : Env} {S : Sto} {σ : St} (p : Rp G x m H ρ S σ) : ∀ b ∈ x ++ m, Nt H b := fun b hb => by
  rcases List.mem_append.mp hb with hb | hb
  · exact p.ex b hb
  · exact p.sto.nt hb
theorem RF.keep {e' : List Addr} {H' : Hp} (k : Keep G e H e' H') : ∀ {fs : List (Str × D)} {gs : List (Str × V)}, RF G e H fs gs → RF G e' H' fs gs
  | _, _, .nil => .nil
  | _, _, .cons r t => .cons (r.keep k) (RF.keep k t)
/-- the store stays where the cells stay -/
theorem RS.stay {S : Sto} {H' : Hp} (r : RS G (x ++ m) m H S) (E : Ext G m H m H') (h : ∀ a ∈ m, H' a = H a) : RS G (x ++ m) m H' S := by
  refine ⟨r.len, r.nd, r.ins, fun i a c h1 h2 => ?_⟩
  obtain ⟨o, q1, q2⟩ := r.at' i a c h1 h2
  refine ⟨o, by rw [h a (List.mem_of_getElem? h1)]; exact q1, ?_⟩
  cases q2 with
  | lst q => exact .lst (q.keep E.kp)
  | dic q1 q => exact .dic (q1.ext fun _ _ z => SqT.ext E z) (q.keep E.kp)
  | ins g1 g2 q => exact .ins g1 (E.owns _ _ g2) (q.keep E.kp)
theorem RS.new {S : Sto} (r : RS G (x ++ m) m H S) (h : H p = none) : RS G (x ++ m) m (upd H p o) S :=
  r.stay (Ext.new h) fun a ha => by
    obtain ⟨u, q⟩ := r.live ha
    rw [upd_ne (ne_of_none q h)]
end

/-! ### lists of expressions -/
def argsM : List ME → MA
  | [] => fun _ S => .ok [] S
  | f :: fs => fun ρ S => (f ρ S).bind fun u S1 => (argsM fs ρ S1).bind fun us S2 => .ok (u :: us) S2
theorem O.bind_ok {α β : Type} {o : O α} {f : α → Sto → O β} {b : β} {S' : Sto} (h : o.bind f = .ok b S') : ∃ a S, o = .ok a S ∧ f a S = .ok b S' := by
  cases o with
  | ok a S => exact ⟨a, S, rfl, h⟩
  | ex e S => simp [O.bind] at h
  | un => simp [O.bind] at h
theorem argsM_len : ∀ {fs : List ME} {ρ : Env} {S S' : Sto} {us : List U}, argsM fs ρ S = .ok us S' → us.length = fs.length
  | [], _, _, _, _, h => by simp [argsM] at h; simp [← h.1]
  | f :: fs, ρ, S, S', us, h => by
    obtain ⟨u, S1, h1, h2⟩ := O.bind_ok h
    obtain ⟨us', S2, h3, h4⟩ := O.bind_ok h2
    cases h4
    simp [argsM_len h3]
section
variable {X : Cx} {T : List (Addr × Str)} {W : WX} {e : Expr} {es : List Expr} {f f1 f2 : ME} {fs : List ME} {pos : Pos}
theorem a_nil : PA X [] (tA (gOf X T) W (argsM [])) := pa_mono pa_nil fun σ H Q h => by
  obtain ⟨x, m, ρ, S, p, h⟩ := h
  exact h m H Ext.refl p.sto [] .nil
theorem a_cons (ha : PE X e (tE (gOf X T) W f)) (hr : PA X es (tA (gOf X T) W (argsM fs))) (hs : starEach (e :: es) X.env = (false, eval e X.env) :: starEach es X.env := by rfl) : PA X (e :: es) (tA (gOf X T) W (argsM (f :: fs))) := pa_mono (pa_cons ha hr hs) fun σ H Q h => by
  obtain ⟨x, m, ρ, S, p, h⟩ := h
  refine ⟨x, m, ρ, S, p, (Post.bind h).mono fun u S1 m1 H1 E1 R1 ⟨_, _, h1⟩ v rv => ?_⟩
  refine ⟨x, m1, ρ, S1, p.ext E1 R1, (Post.bind h1).mono fun us S2 m2 H2 E2 R2 ⟨_, _, h2⟩ vs rvs => ?_⟩
  exact h2 m2 H2 Ext.refl R2 _ (.cons (rv.ext E2) rvs)

/-! ### names, constants -/
def varM (i : Nat) : ME := fun ρ S => match ρ[i]? with
  | some (some u) => .ok u S
  | _ => .un
def conM (d : D) : ME := fun _ S => .ok (.d d) S
theorem e_var (i : Nat) {x : Str} (hN : X.N[i]? = some x := by rfl) (hv : Vis X.env.scope x := by first | exact Or.inl rfl | exact Or.inr (Or.inl rfl) | exact Or.inr (Or.inr rfl)) (hd : (x == ("__debug__" : Str)) = false := by decide)
    (hcd : (x == ("__classdict__" : Str)) = false := by decide) : PE X (.Name x pos) (tE (gOf X T) W (varM i)) := pe_mono (pe_var hN hv hd hcd) fun σ H Q h => by
  obtain ⟨y, m, ρ, S, p, h⟩ := h
  unfold varM at h
  cases q : ρ[i]? with
  | none => rw [q] at h; exact h.elim
  | some o =>
    cases o with
    | none => rw [q] at h; exact h.elim
    | some u =>
      rw [q] at h
      obtain ⟨v, h1, h2⟩ := p.env.get q
      exact ⟨v, h1, h m H Ext.refl p.sto v h2⟩
theorem tC_of {v : V} {d : D} (hr : ∀ e H, RV (gOf X T) e H d v) : ∀ σ H Q, tE (gOf X T) W (conM d) σ H Q → tC v σ H Q := fun σ H Q h => by
  obtain ⟨x, m, ρ, S, p, h⟩ := h
  exact h m H Ext.refl p.sto v (.d (hr _ _))
theorem e_int {i j pos} : PE X (.Constant (.int i) j pos) (tE (gOf X T) W (conM (.int i))) := pe_mono pe_int (tC_of fun _ _ => .int i)
theorem e_bl {i j pos} : PE X (.Constant (.bool i) j pos) (tE (gOf X T) W (conM (.bl i))) := pe_mono pe_bl (tC_of fun _ _ => .bl i)
theorem e_non {j pos} : PE X (.Constant .none j pos) (tE (gOf X T) W (conM .non)) := pe_mono pe_non (tC_of fun _ _ => .non)
theorem e_str {i j pos} : PE X (.Constant (.str i) j pos) (tE (gOf X T) W (conM (.str i))) := pe_mono pe_str (tC_of fun _ _ => .str i)
/-- a constant of the module -/
structure KD (G : Gc) (x : Str) (d : D) : Prop where
  ex : ∃ u v, G.mg x = some u ∧ RelV v u ∧ ∀ e H, RV G e H d v
theorem e_glob {x : Str} {d : D} (h : KD (gOf X T) x d) (hg : Gl X x := by rfl) (hd : (x == ("__debug__" : Str)) = false := by decide) : PE X (.Name x pos) (tE (gOf X T) W (conM d)) := by
  obtain ⟨u, v, h1, h2, h3⟩ := h.ex
  exact pe_mono (pe_glob hg h1 h2 hd) (tC_of h3)

/-! ### displays -/
def tupM (fs : List ME) : ME := fun ρ S => (argsM fs ρ S).bind fun us S' => match pures us with
  | some ds => .ok (.d (.tup ds)) S'
  | none => .un
def lstM (fs : List ME) : ME := fun ρ S => (argsM fs ρ S).bind fun us S' => match pures us with
  | some ds => .ok (.d (.lst ds)) S'
  | none => .un
def nlsM (fs : List ME) : ME := fun ρ S => (argsM fs ρ S).bind fun us S' => match pures us with
  | some ds => .ok (.c S'.length) (S' ++ [.lst ds])
  | none => .un
theorem e_tup {k} (h : PA X es (tA (gOf X T) W (argsM fs))) (hl : Nat.ble fs.length 1000 = true := by rfl) : PE X (.Tuple es k pos) (tE (gOf X T) W (tupM fs)) := pe_mono (pe_tup h) fun σ H Q h => by
  obtain ⟨x, m, ρ, S, p, h⟩ := h
  cases q : argsM fs ρ S with
  | ok us S' =>
    refine ⟨x, m, ρ, S, p, ?_⟩
    rw [q]
    intro m1 H1 E1 R1 vs rvs
    have hn : vs.length = fs.length := by rw [← RUs.length rvs, argsM_len q]
    refine ⟨Nat.le_of_lt (small1000 (by rw [hn]; exact Nat.le_of_ble_eq_true hl)), fun p' np => ?_⟩
    simp only [tupM, q, O.bind] at h
    split at h
    · rename_i ds hd
      exact h m1 _ (E1.trans (Ext.new np)) (R1.new np) _ (.d (RV.newTup (RUs.pure rvs hd) np (p.ext E1 R1).trk))
    · exact h.elim
  | ex e S' =>
    refine ⟨x, m, ρ, S, p, ?_⟩
    simp only [tupM, q, O.bind] at h ⊢
    exact h
  | un =>
    simp only [tupM, q, O.bind] at h
    exact h.elim
theorem e_lst (h : PA X es (tA (gOf X T) W (argsM fs))) (hl : Nat.ble fs.length 1000 = true := by rfl) : PE X (.List es pos) (tE (gOf X T) W (lstM fs)) := pe_mono (pe_lst h) fun σ H Q h => by
  obtain ⟨x, m, ρ, S, p, h⟩ := h
  cases q : argsM fs ρ S with
  | ok us S' =>
    refine ⟨x, m, ρ, S, p, ?_⟩
    rw [q]
    intro m1 H1 E1 R1 vs rvs
    have hn : vs.length = fs.length := by rw [← RUs.length rvs, argsM_len q]
    refine ⟨Nat.le_of_lt (small1000 (by rw [hn]; exact Nat.le_of_ble_eq_true hl)), fun p' np => ?_⟩
    simp only [lstM, q, O.bind] at h
    split at h
    · rename_i ds hd
      exact h m1 _ (E1.trans (Ext.new np)) (R1.new np) _ (.d (RV.newLst (RUs.pure rvs hd) np (p.ext E1 R1).trk))
    · exact h.elim
  | ex e S' =>
    refine ⟨x, m, ρ, S, p, ?_⟩
    simp only [lstM, q, O.bind] at h ⊢
    exact h
  | un =>
    simp only [lstM, q, O.bind] at h
    exact h.elim
end
/-! a new object becomes a cell -/
section
variable {G : Gc} {x m : List Addr} {H : Hp} {S : Sto} {p : Addr} {o : HO} {c : Cell}
theorem Ext.cell (np : H p = none) : Ext G m H (m ++ [p]) (upd H p o) :=
  { (Ext.new (G := G) (m := m) (o := o) np) with pre := ⟨[p], rfl, fun b hb => by have : b = p := by simpa using hb
                                                                                  subst this; exact fun ⟨u, q, _⟩ => by rw [np] at q; cases q⟩ }
theorem RC.ext {m' : List Addr} {H' : Hp} {a : Addr} {c : Cell} {o : HO} (E : Ext G m H m' H') (q : RC G (x ++ m) H a c o) : RC G (x ++ m') H' a c o := by
  cases q with
  | lst q => exact .lst (q.keep E.kp)
  | dic q1 q => exact .dic (q1.ext fun _ _ z => SqT.ext E z) (q.keep E.kp)
  | ins g1 g2 q => exact .ins g1 (E.owns _ _ g2) (q.keep E.kp)
theorem RS.cell (r : RS G (x ++ m) m H S) (np : H p = none) (hc : RC G (x ++ (m ++ [p])) (upd H p o) p c o) : RS G (x ++ (m ++ [p])) (m ++ [p]) (upd H p o) (S ++ [c]) := by
  have nm : p ∉ m := fun z => by
    obtain ⟨u, q⟩ := r.live z
    rw [np] at q; cases q
  refine ⟨by simp [r.len], List.nodup_append.mpr ⟨r.nd, by simp, fun a ha b hb => ?_⟩, fun b hb => ?_, fun i a c' h1 h2 => ?_⟩
  · have : b = p := by simpa using hb
    subst this
    exact fun z => nm (z ▸ ha)
  · exact List.mem_append_right _ hb
  · by_cases hi : i < m.length
    · rw [List.getElem?_append_left hi] at h1
      rw [List.getElem?_append_left (by rw [← r.len]; exact hi)] at h2
      obtain ⟨o', q1, q2⟩ := r.at' i a c' h1 h2
      exact ⟨o', by rw [upd_ne (ne_of_none q1 np)]; exact q1, q2.ext (Ext.cell np)⟩
    · have e1 : i = m.length := by
        have := (List.getElem?_eq_some_iff.mp h1).1
        simp at this
        omega
      subst e1
      rw [List.getElem?_append_right (Nat.le_refl _), Nat.sub_self] at h1
      rw [r.len, List.getElem?_append_right (Nat.le_refl _), Nat.sub_self] at h2
      have e2 : p = a := Option.some.inj h1
      have e3 : c = c' := Option.some.inj h2
      subst e2 e3
      exact ⟨o, upd_same, hc⟩
end
section
variable {X : Cx} {T : List (Addr × Str)} {W : WX} {e : Expr} {es : List Expr} {f f1 f2 : ME} {fs : List ME} {pos : Pos}
theorem e_nls (h : PA X es (tA (gOf X T) W (argsM fs))) (hl : Nat.ble fs.length 1000 = true := by rfl) : PE X (.List es pos) (tE (gOf X T) W (nlsM fs)) := pe_mono (pe_lst h) fun σ H Q h => by
  obtain ⟨x, m, ρ, S, p, h⟩ := h
  cases q : argsM fs ρ S with
  | ok us S' =>
    refine ⟨x, m, ρ, S, p, ?_⟩
    rw [q]
    intro m1 H1 E1 R1 vs rvs
    have hn : vs.length = fs.length := by rw [← RUs.length rvs, argsM_len q]
    refine ⟨Nat.le_of_lt (small1000 (by rw [hn]; exact Nat.le_of_ble_eq_true hl)), fun p' np => ?_⟩
    simp only [nlsM, q, O.bind] at h
    split at h
    · rename_i ds hd
      have E2 : Ext (gOf X T) m1 H1 (m1 ++ [p']) (upd H1 p' (.lst vs)) := Ext.cell np
      exact h (m1 ++ [p']) _ (E1.trans E2) (R1.cell np (.lst ((RUs.pure rvs hd).keep E2.kp))) _ (.c (by rw [← R1.len]; simp))
    · exact h.elim
  | ex e S' =>
    refine ⟨x, m, ρ, S, p, ?_⟩
    simp only [nlsM, q, O.bind] at h ⊢
    exact h
  | un =>
    simp only [nlsM, q, O.bind] at h
    exact h.elim

/-! ### operators -/
def op2M (g : D → D → Option D) (f1 f2 : ME) : ME := fun ρ S => (f1 ρ S).bind fun u S1 => (f2 ρ S1).bind fun w S2 =>
  match rd S2 u, rd S2 w with
  | some x, some y => match g x y with
    | some z => .ok (.d z) S2
    | none => .un
  | _, _ => .un
def op1M (g : D → Option D) (f1 : ME) : ME := fun ρ S => (f1 ρ S).bind fun u S1 =>
  match rd S1 u with
  | some x => match g x with
    | some z => .ok (.d z) S1
    | none => .un
  | none => .un
/-- an operation that makes no cell and changes none: what is asked, by data -/
def rG (G : Gc) (g : D → D → Option D) : R2 := fun vx vy H Q => ∃ x y z e m, g x y = some z ∧ (∀ b ∈ e, ∃ o, H b = some o) ∧ RT G e H x vx ∧ RT G e H y vy ∧
  ∀ H' w, Ext G m H m H' → (∀ a ∈ m, H a ≠ none → H' a = H a) → RV G e H' z w → Q w H'
def rG1 (G : Gc) (g : D → Option D) : V → Hp → VK → Prop := fun vx H Q => ∃ x z e m, g x = some z ∧ (∀ b ∈ e, ∃ o, H b = some o) ∧ RT G e H x vx ∧
  ∀ H' w, Ext G m H m H' → (∀ a ∈ m, H a ≠ none → H' a = H a) → RV G e H' z w → Q w H'
theorem op2_red {a b : TE} {g : D → D → Option D} {σ : St} {H : Hp} {Q : VK} (h : tE (gOf X T) W (op2M g f1 f2) σ H Q) : tOp (rG (gOf X T) g) (tE (gOf X T) W f1) (tE (gOf X T) W f2) σ H Q := by
  obtain ⟨x, m, ρ, S, p, h⟩ := h
  refine ⟨x, m, ρ, S, p, (Post.bind h).mono fun u S1 m1 H1 E1 R1 ⟨_, _, h1⟩ v rv => ?_⟩
  refine ⟨x, m1, ρ, S1, p.ext E1 R1, (Post.bind h1).mono fun w S2 m2 H2 E2 R2 ⟨_, _, h2⟩ v' rv' => ?_⟩
  have p2 := (p.ext E1 R1).ext E2 R2
  skip
  split at h2
  · rename_i dx dy q1 q2
    split at h2
    · rename_i z q3
      exact ⟨dx, dy, z, x ++ m2, m2, q3, p2.trk, (rv.ext E2).rt R2 q1, rv'.rt R2 q2, fun H' w' E3 hs r => h2 m2 H' E3 (R2.stay E3 fun a ha => hs a ha (by obtain ⟨o, q⟩ := R2.live ha; rw [q]; simp)) w' (.d r)⟩
    · exact h2.elim
  · exact h2.elim
theorem op1_red {g : D → Option D} {σ : St} {H : Hp} {Q : VK} (h : tE (gOf X T) W (op1M g f1) σ H Q) : tUn (rG1 (gOf X T) g) (tE (gOf X T) W f1) σ H Q := by
  obtain ⟨x, m, ρ, S, p, h⟩ := h
  refine ⟨x, m, ρ, S, p, (Post.bind h).mono fun u S1 m1 H1 E1 R1 ⟨_, _, h1⟩ v rv => ?_⟩
  have p1 := p.ext E1 R1
  skip
  split at h1
  · rename_i dx q1
    split at h1
    · rename_i z q3
      exact ⟨dx, z, x ++ m1, m1, q3, p1.trk, rv.rt R1 q1, fun H' w' E3 hs r => h1 m1 H' E3 (R1.stay E3 fun a ha => hs a ha (by obtain ⟨o, q⟩ := R1.live ha; rw [q]; simp)) w' (.d r)⟩
    · exact h1.elim
  · exact h1.elim
theorem e_op {a b : Expr} {op : Operator} {g : D → D → Option D} (ho : OpR X (binaryOp op) (rG (gOf X T) g)) (ha : PE X a (tE (gOf X T) W f1)) (hb : PE X b (tE (gOf X T) W f2)) : PE X (.BinOp a op b pos) (tE (gOf X T) W (op2M g f1 f2)) :=
  pe_mono (pe_op ho ha hb) fun σ H Q h => op2_red (a := fun _ _ _ => True) (b := fun _ _ _ => True) h
theorem e_cmp {a b : Expr} {op : CmpOp} {g : D → D → Option D} (ho : OpR X (compareOp op) (rG (gOf X T) g)) (ha : PE X a (tE (gOf X T) W f1)) (hb : PE X b (tE (gOf X T) W f2)) (hm : behindInMarks op b = false := by first | exact nomark _ | rfl) : PE X (.Compare a [op] [b] pos) (tE (gOf X T) W (op2M g f1 f2)) :=
  pe_mono (pe_cmpR ho ha hb hm) fun σ H Q h => op2_red (a := fun _ _ _ => True) (b := fun _ _ _ => True) h
theorem e_un {a : Expr} {op : UnaryOp} {g : D → Option D} (ho : UnR X (unaryOp op) (rG1 (gOf X T) g)) (ha : PE X a (tE (gOf X T) W f1)) : PE X (.UnaryOp op a pos) (tE (gOf X T) W (op1M g f1)) :=
  pe_mono (pe_un ho ha) fun σ H Q h => op1_red h
/-- a value that is a truth, as a test -/
def tstM (f : ME) : MT := fun ρ S => (f ρ S).bind fun u S1 => match u with
  | .d (.bl b) => .ok b S1
  | _ => .un
theorem tst_red {t : TE} {σ : St} {H : Hp} {Q : Bool → Hp → Prop} (h : tT (gOf X T) W (tstM f) σ H Q) : tE (gOf X T) W f σ H fun x H' => ∃ k, x = .bl k ∧ Q k H' := by
  obtain ⟨x, m, ρ, S, p, h⟩ := h
  refine ⟨x, m, ρ, S, p, (Post.bind h).mono fun u S1 m1 H1 E1 R1 ⟨_, _, h1⟩ v rv => ?_⟩
  split at h1
  · rename_i b
    cases rv with
    | d r => cases r; exact ⟨_, rfl, h1 m1 H1 Ext.refl R1⟩
  · exact h1.elim
theorem t_cmp {a b : Expr} {op : CmpOp} {g : D → D → Option D} (ho : OpR X (compareOp op) (rG (gOf X T) g)) (ha : PE X a (tE (gOf X T) W f1)) (hb : PE X b (tE (gOf X T) W f2)) (hm : behindInMarks op b = false := by first | exact nomark _ | rfl) : PT X (.Compare a [op] [b] pos) (tT (gOf X T) W (tstM (op2M g f1 f2))) :=
  pt_mono (pt_cmpR ho ha hb hm) fun σ H Q h => op2_red (a := fun _ _ _ => True) (b := fun _ _ _ => True) (tst_red (t := fun _ _ _ => True) h)
theorem t_val {e : Expr} (h : PE X e (tE (gOf X T) W f)) (he : ∀ whole, isTrue e X.env whole = (do let v ← whole; standAt e.pos; holding [v] (truthy v)) := by intro _; rfl) : PT X e (tT (gOf X T) W (tstM f)) :=
  pt_mono (pt_val h he) fun σ H Q h => tst_red (t := fun _ _ _ => True) h
end
end Mir

/-! Mir3: the operators, by data. -/
namespace Mir
open PySem PySem.Spec PyProof.Rows L2
def big : Nat := 1000000
theorem big_ok {n : Nat} (h : n ≤ big) : n ≤ sizeLine := Nat.le_trans h (by rw [sizeLine_eq]; decide)
theorem big_lt {n : Nat} (h : n ≤ big) : n < sizeLine := Nat.lt_of_le_of_lt h (by rw [sizeLine_eq]; decide)

/-! ### data as the library's data -/
mutual
def D.P : D → PyData
  | .non => .none
  | .bl b => .bool b
  | .int i => .int i
  | .str x => .str x
  | .tup xs => .tuple (Ps xs)
  | .lst xs => .list (Ps xs)
  | .dic _ _ _ => .dict []
  | .scr _ => .dict []
def Ps : List D → List PyData
  | [] => []
  | d :: ds => D.P d :: Ps ds
end
theorem Ps_map : ∀ ds : List D, Ps ds = ds.map D.P
  | [] => rfl
  | d :: ds => by simp [Ps, Ps_map ds]
section
variable {G : Gc} {e : List Addr} {H : Hp}
mutual
theorem RV.dp : ∀ {d : D} {v : V}, RV G e H d v → PyData.canLay0 d.P = true → Dp G.K H v d.P
  | _, _, .non, _ => .non
  | _, _, .bl b, _ => .bl b
  | _, _, .int i, _ => .int i
  | _, _, .str x, _ => .str x
  | _, _, .tup h r, c => .tup h (RVs.dp r c)
  | _, _, .lst h n r, c => .lst (.of h) (RVs.dp r c)
  | _, _, .scr h, c => by simp [D.P, PyData.canLay0] at c
  | _, _, .dic h n q r, c => by simp [D.P, PyData.canLay0] at c
theorem RVs.dp : ∀ {ds : List D} {vs : List V}, RVs G e H ds vs → PyData.canLayAll0 (Ps ds) = true → DpAll G.K H vs (Ps ds)
  | _, _, .nil, _ => .nil
  | _, _, .cons r t, c => by
    have c' := Bool.and_eq_true_iff.mp (show (PyData.canLay0 (D.P _) && PyData.canLayAll0 (Ps _)) = true from c)
    exact .cons (RV.dp r c'.1) (RVs.dp t c'.2)
end
theorem RT.dp {d : D} {v : V} (r : RT G e H d v) (c : SeqAt.shaped d.P = true) : Dp G.K H v d.P := by
  have c0 := SeqAt.canLay_of_shaped c
  cases r with
  | of r => exact r.dp c0
  | lst h r => exact .lst (.of h) (r.dp c0)
  | dic h q r => simp [D.P, PyData.canLay0] at c0
end

/-! ### arithmetic -/
def mulOk (i j : Int) : Bool := decide (-(2 ^ 64) < i ∧ i < 2 ^ 64) || decide (-(2 ^ 64) < j ∧ j < 2 ^ 64)
def addG : D → D → Option D
  | .int i, .int j => some (.int (i + j))
  | .str x, .str y => if x.length + y.length ≤ big then some (.str (x ++ y)) else none
  | .tup xs, .tup ys => if xs.length + ys.length ≤ big then some (.tup (xs ++ ys)) else none
  | .lst xs, .lst ys => if xs.length + ys.length ≤ big then some (.lst (xs ++ ys)) else none
  | .lst xs, .scr ns => if xs.length + ns.length ≤ big then some (.lst (xs ++ ns.map D.int)) else none
  | .scr ns, .lst xs => if ns.length + xs.length ≤ big then some (.lst (ns.map D.int ++ xs)) else none
  | _, _ => none
def subG : D → D → Option D
  | .int i, .int j => some (.int (i - j))
  | _, _ => none
def mulG : D → D → Option D
  | .int i, .int j => if mulOk i j then some (.int (i * j)) else none
  | .tup xs, .int k => if xs ≠ [] ∧ 2 ≤ k ∧ k ≤ 1000 ∧ xs.length ≤ 1000 then some (.tup (List.replicate k.toNat xs).flatten) else none
  | .lst xs, .int k => if 0 ≤ k ∧ k ≤ 1000 ∧ xs.length ≤ 1000 then some (.lst (List.replicate k.toNat xs).flatten) else none
  | _, _ => none
def fdivG : D → D → Option D
  | .int i, .int j => if 0 < j ∧ j.natAbs.log2 < 9000 then some (.int (i / j)) else none
  | _, _ => none
def modG : D → D → Option D
  | .int i, .int j => if 0 < j then some (.int (i % j)) else none
  | _, _ => none
def powG : D → D → Option D
  | .int i, .int j => if 0 ≤ j ∧ j ≤ 1000000 ∧ i.natAbs < 2 ^ 64 then some (.int (i ^ j.toNat)) else none
  | _, _ => none
def negG : D → Option D
  | .int i => some (.int (-i))
  | _ => none
def ltG : D → D → Option D
  | .int i, .int j => some (.bl (decide (i < j)))
  | .str x, .str y => some (.bl (decide (x.cps.toList < y.cps.toList)))
  | _, _ => none
def leG : D → D → Option D
  | .int i, .int j => some (.bl (decide (i ≤ j)))
  | _, _ => none
def gtG : D → D → Option D
  | .int i, .int j => some (.bl (decide (j < i)))
  | _, _ => none
def geG : D → D → Option D
  | .int i, .int j => some (.bl (decide (j ≤ i)))
  | _, _ => none
def eqD (x y : D) : Bool := PyData.eqv x.P y.P
def sh (x : D) : Bool := SeqAt.shaped x.P
def eqG (x y : D) : Option D := if sh x && sh y then some (.bl (eqD x y)) else none
def neG (x y : D) : Option D := if sh x && sh y then some (.bl (!eqD x y)) else none
def isNon : D → Bool
  | .non => true
  | _ => false
def isG : D → D → Option D
  | x, .non => some (.bl (isNon x))
  | .bl a, .bl b => some (.bl (a == b))
  | _, _ => none
def isNotG : D → D → Option D
  | x, .non => some (.bl (!isNon x))
  | .bl a, .bl b => some (.bl (!(a == b)))
  | _, _ => none

section
variable {X : Cx} {T : List (Addr × Str)} {pins : List (Addr × Obj)} {s : Shared} {σ : St} {H : Hp} {x y : D} {e : List Addr} {vx vy : V} {v u : Value} {Q : VK}
theorem noKeep {m : List Addr} {H H' : Hp} (h : H' = H) : ∀ a ∈ m, H a ≠ none → H' a = H a := fun _ _ _ => by rw [h]
theorem newKeep {m : List Addr} {H : Hp} {p : Addr} {o : HO} (h : H p = none) : ∀ a ∈ m, H a ≠ none → upd H p o a = H a := fun a _ q => upd_ne fun z => q (z ▸ h)
/-- list + list, tracked or known -/
theorem op_catL : OpR X (binaryOp .Add) (fun x y H Q => ∃ l b xs zs, x = .ref l ∧ y = .ref b ∧ SqL X.K H l xs ∧ SqL X.K H b zs ∧ xs.length + zs.length ≤ sizeLine ∧ ∀ p, H p = none → Q (.ref p) (upd H p (.lst (xs ++ zs)))) := by
  intro pins s σ H x y v u Q I rx ry h
  obtain ⟨l, b, xs, zs, rfl, rfl, hH, hB, hz, q⟩ := h
  cases rx
  cases ry
  obtain ⟨its1, r1, ⟨⟨c1, d1, t1, s1⟩, n1, g1, e1, f1, k1⟩, _⟩ := I.list hH
  obtain ⟨its2, r2, ⟨⟨c2, d2, t2, s2⟩, n2, g2, e2, f2, k2⟩, _⟩ := I.list hB
  simp only at e1 f1 k1 e2 f2 k2
  subst e1 f1 k1 e2 f2 k2
  refine concat_meets ⟨_, g1, rfl⟩ ⟨_, g2, rfl⟩ noFill_list_add seq_list_add PySem.F.slot_list_add PySem.F.entry_list_add (PySem.F.args_list_add_2 _ _)
    (list_addW l b its1.toArray its2.toArray n1 n2 none none s1 s2 (by rw [List.size_toArray, List.size_toArray, ← r1.length, ← r2.length]; exact hz)) ⟨g1, g2, ?_⟩
  rw [show its1.toArray ++ its2.toArray = (its1 ++ its2).toArray by simp]
  exact ⟨.ref _, _, I.lnew (t' := s.toks) (r1.append r2) (by rw [List.length_append]; exact hz), rfl, q _ I.fresh⟩
theorem RT.tup {G : Gc} {ds : List D} (r : RT G e H (.tup ds) vx) : ∃ a xs, vx = .ref a ∧ SqT G.K H a xs ∧ RVs G e H ds xs := by
  cases r with
  | of r => cases r with
    | tup h r => exact ⟨_, _, rfl, h, r⟩
theorem RT.lst' {G : Gc} {ds : List D} (r : RT G e H (.lst ds) vx) : ∃ a xs, vx = .ref a ∧ H a = some (.lst xs) ∧ RVs G e H ds xs := by
  cases r with
  | of r => cases r with
    | lst h n r => exact ⟨_, _, rfl, h, r⟩
  | lst h r => exact ⟨_, _, rfl, h, r⟩
theorem RT.dic' {G : Gc} {t : Bool} {ks : List NestedKey} {ds : List D} (r : RT G e H (.dic t ks ds) vx) : ∃ a o xs, vx = .ref a ∧ H a = some o ∧ RD G H a t ks xs o ∧ RVs G e H ds xs := by
  cases r with
  | of r => cases r with
    | dic h n q r => exact ⟨_, _, _, rfl, h, q, r⟩
  | dic h q r => exact ⟨_, _, _, rfl, h, q, r⟩
theorem RT.int {G : Gc} {i : Int} (r : RT G e H (.int i) vx) : vx = .int i := by
  cases r with
  | of r => cases r; rfl
theorem RT.str {G : Gc} {i : Str} (r : RT G e H (.str i) vx) : vx = .str i := by
  cases r with
  | of r => cases r; rfl
theorem RT.bl {G : Gc} {i : Bool} (r : RT G e H (.bl i) vx) : vx = .bl i := by
  cases r with
  | of r => cases r; rfl
theorem RT.non {G : Gc} (r : RT G e H .non vx) : vx = .non := by
  cases r with
  | of r => cases r; rfl

theorem RT.scr {G : Gc} {ns : List Int} (r : RT G e H (.scr ns) vx) : ∃ a, vx = .ref a ∧ SqL G.K H a (ns.map V.int) := by
  cases r with
  | of r => cases r with
    | scr h => exact ⟨_, rfl, h.sq⟩
theorem rvs_ints {G : Gc} : ∀ ns : List Int, RVs G e H (ns.map D.int) (ns.map V.int)
  | [] => .nil
  | n :: ns => .cons (.int n) (rvs_ints ns)
theorem o_add : OpR X (binaryOp .Add) (rG (gOf X T) addG) := by
  intro pins s σ H vx vy v u Q I rx ry ⟨x, y, z, e, m, hg, tr, r1, r2, q⟩
  unfold addG at hg
  split at hg
  · rename_i i j
    cases hg
    cases r1.int
    cases r2.int
    exact op_add pins s σ H _ _ v u Q I rx ry ⟨i, j, rfl, rfl, q _ _ Ext.refl (noKeep rfl) (.int _)⟩
  · rename_i i j
    split at hg
    · rename_i hl
      cases hg
      cases r1.str
      cases r2.str
      exact op_add_str pins s σ H _ _ v u Q I rx ry ⟨i, j, rfl, rfl, big_ok hl, q _ _ Ext.refl (noKeep rfl) (.str _)⟩
    · cases hg
  · rename_i ds es
    split at hg
    · rename_i hl
      cases hg
      obtain ⟨a, xs, rfl, h1, q1⟩ := r1.tup
      obtain ⟨b, ys, rfl, h2, q2⟩ := r2.tup
      rw [q1.len, q2.len] at hl
      refine op_catA pins s σ H _ _ v u Q I rx ry ⟨a, b, xs, ys, rfl, rfl, h1, h2, big_ok hl, fun z => ?_, fun _ z => ?_, fun _ _ p hp => ?_⟩
      · subst z
        cases q1
        exact q _ _ Ext.refl (noKeep rfl) (.tup h2 q2)
      · subst z
        cases q2
        rw [List.append_nil] at q
        exact q _ _ Ext.refl (noKeep rfl) (.tup h1 q1)
      · exact q _ _ (Ext.new hp) (newKeep hp) (RV.newTup (q1.append q2) hp tr)
    · cases hg
  · rename_i ds es
    split at hg
    · rename_i hl
      cases hg
      obtain ⟨a, xs, rfl, h1, q1⟩ := r1.lst'
      obtain ⟨b, ys, rfl, h2, q2⟩ := r2.lst'
      rw [q1.len, q2.len] at hl
      exact op_catL pins s σ H _ _ v u Q I rx ry ⟨a, b, xs, ys, rfl, rfl, .of h1, .of h2, big_ok hl, fun p hp => q _ _ (Ext.new hp) (newKeep hp) (RV.newLst (q1.append q2) hp tr)⟩
    · cases hg
  · rename_i ds ns
    split at hg
    · rename_i hl
      cases hg
      obtain ⟨a, xs, rfl, h1, q1⟩ := r1.lst'
      obtain ⟨b, rfl, h2⟩ := r2.scr
      rw [q1.len] at hl
      exact op_catL pins s σ H _ _ v u Q I rx ry ⟨a, b, xs, _, rfl, rfl, .of h1, h2, by rw [List.length_map]; exact big_ok hl, fun p hp => q _ _ (Ext.new hp) (newKeep hp) (RV.newLst (q1.append (rvs_ints ns)) hp tr)⟩
    · cases hg
  · rename_i ns ds
    split at hg
    · rename_i hl
      cases hg
      obtain ⟨a, xs, rfl, h1, q1⟩ := r2.lst'
      obtain ⟨b, rfl, h2⟩ := r1.scr
      rw [q1.len] at hl
      exact op_catL pins s σ H _ _ v u Q I rx ry ⟨b, a, _, xs, rfl, rfl, h2, .of h1, by rw [List.length_map]; exact big_ok hl, fun p hp => q _ _ (Ext.new hp) (newKeep hp) (RV.newLst ((rvs_ints ns).append q1) hp tr)⟩
    · cases hg
  · cases hg
theorem o_sub : OpR X (binaryOp .Sub) (rG (gOf X T) subG) := by
  intro pins s σ H vx vy v u Q I rx ry ⟨x, y, z, e, m, hg, tr, r1, r2, q⟩
  unfold subG at hg
  split at hg
  · rename_i i j
    cases hg
    cases r1.int
    cases r2.int
    exact op_sub pins s σ H _ _ v u Q I rx ry ⟨i, j, rfl, rfl, q _ _ Ext.refl (noKeep rfl) (.int _)⟩
  · cases hg
theorem o_mul : OpR X (binaryOp .Mult) (rG (gOf X T) mulG) := by
  intro pins s σ H vx vy v u Q I rx ry ⟨x, y, z, e, m, hg, tr, r1, r2, q⟩
  unfold mulG at hg
  split at hg
  · rename_i i j
    split at hg
    · rename_i hm
      cases hg
      cases r1.int
      cases r2.int
      refine op_mul pins s σ H _ _ v u Q I rx ry ⟨i, j, rfl, rfl, ?_, q _ _ Ext.refl (noKeep rfl) (.int _)⟩
      rcases Bool.or_eq_true_iff.mp hm with h | h
      · exact .inl (of_decide_eq_true h)
      · exact .inr (of_decide_eq_true h)
    · cases hg
  · rename_i ds k
    split at hg
    · rename_i hm
      cases hg
      obtain ⟨h0, h1, h2, h3⟩ := hm
      cases r2.int
      obtain ⟨a, xs, rfl, t1, q1⟩ := r1.tup
      refine op_repT pins s σ H _ _ v u Q I rx ry ⟨a, k, xs, rfl, rfl, t1, fun z => h0 ?_, h1, h2, by rw [← q1.len]; exact h3, fun p hp => q _ _ (Ext.new hp) (newKeep hp) (RV.newTup (q1.flat _) hp tr)⟩
      subst z
      cases q1
      rfl
    · cases hg
  · rename_i ds k
    split at hg
    · rename_i hm
      cases hg
      obtain ⟨h1, h2, h3⟩ := hm
      cases r2.int
      obtain ⟨a, xs, rfl, t1, q1⟩ := r1.lst'
      have hb : xs.length * k.toNat ≤ sizeLine := by
        rw [← q1.len]
        exact big_ok (Nat.le_trans (Nat.mul_le_mul h3 (show k.toNat ≤ 1000 by omega)) (by decide))
      exact op_rep pins s σ H _ _ v u Q I rx ry ⟨a, k, xs, rfl, rfl, t1, by omega, by omega, hb, fun p hp => q _ _ (Ext.new hp) (newKeep hp) (RV.newLst (q1.flat _) hp tr)⟩
    · cases hg
  · cases hg
end
end Mir

/-! Mir4: more operators; comparisons; truth; subscripts and slices. -/
namespace Mir
open PySem PySem.Spec PyProof.Rows L2
section
variable {X : Cx} {T : List (Addr × Str)}
theorem wide_fdiv : OpR X (binaryOp .FloorDiv) (rI (fun _ j => 0 < j ∧ j.natAbs.log2 < 9000) fun i j => .int (i / j)) := op_fdivW
theorem o_fdiv : OpR X (binaryOp .FloorDiv) (rG (gOf X T) fdivG) := by
  intro pins s σ H vx vy v u Q I rx ry ⟨x, y, z, e, m, hg, tr, r1, r2, q⟩
  unfold fdivG at hg
  split at hg
  · split at hg
    · rename_i i j hc
      cases hg
      cases r1.int
      cases r2.int
      exact wide_fdiv pins s σ H _ _ v u Q I rx ry ⟨i, j, rfl, rfl, hc, q _ _ Ext.refl (noKeep rfl) (.int _)⟩
    · cases hg
  · cases hg
theorem o_mod : OpR X (binaryOp .Mod) (rG (gOf X T) modG) := by
  intro pins s σ H vx vy v u Q I rx ry ⟨x, y, z, e, m, hg, tr, r1, r2, q⟩
  unfold modG at hg
  split at hg
  · split at hg
    · rename_i i j hc
      cases hg
      cases r1.int
      cases r2.int
      exact op_mod pins s σ H _ _ v u Q I rx ry ⟨i, j, rfl, rfl, hc, q _ _ Ext.refl (noKeep rfl) (.int _)⟩
    · cases hg
  · cases hg
theorem o_pow : OpR X (binaryOp .Pow) (rG (gOf X T) powG) := by
  intro pins s σ H vx vy v u Q I rx ry ⟨x, y, z, e, m, hg, tr, r1, r2, q⟩
  unfold powG at hg
  split at hg
  · split at hg
    · rename_i i j hc
      cases hg
      cases r1.int
      cases r2.int
      exact op_pow pins s σ H _ _ v u Q I rx ry ⟨i, j, rfl, rfl, hc, q _ _ Ext.refl (noKeep rfl) (.int _)⟩
    · cases hg
  · cases hg
theorem o_neg : UnR X (unaryOp .USub) (rG1 (gOf X T) negG) := by
  intro pins s σ H vx v Q I rx ⟨x, z, e, m, hg, tr, r1, q⟩
  unfold negG at hg
  split at hg
  · rename_i i
    cases hg
    cases r1.int
    exact un_neg pins s σ H _ v Q I rx ⟨i, rfl, q _ _ Ext.refl (noKeep rfl) (.int _)⟩
  · cases hg
theorem o_lt : OpR X (compareOp .Lt) (rG (gOf X T) ltG) := by
  intro pins s σ H vx vy v u Q I rx ry ⟨x, y, z, e, m, hg, tr, r1, r2, q⟩
  unfold ltG at hg
  split at hg
  · rename_i i j
    cases hg
    cases r1.int
    cases r2.int
    exact op_lt pins s σ H _ _ v u Q I rx ry ⟨i, j, rfl, rfl, q _ _ Ext.refl (noKeep rfl) (.bl _)⟩
  · rename_i i j
    cases hg
    cases r1.str
    cases r2.str
    exact op_lt_str pins s σ H _ _ v u Q I rx ry ⟨i, j, rfl, rfl, q _ _ Ext.refl (noKeep rfl) (.bl _)⟩
  · cases hg
theorem o_le : OpR X (compareOp .LtE) (rG (gOf X T) leG) := by
  intro pins s σ H vx vy v u Q I rx ry ⟨x, y, z, e, m, hg, tr, r1, r2, q⟩
  unfold leG at hg
  split at hg
  · rename_i i j
    cases hg
    cases r1.int
    cases r2.int
    exact op_le pins s σ H _ _ v u Q I rx ry ⟨i, j, rfl, rfl, q _ _ Ext.refl (noKeep rfl) (.bl _)⟩
  · cases hg
theorem o_gt : OpR X (compareOp .Gt) (rG (gOf X T) gtG) := by
  intro pins s σ H vx vy v u Q I rx ry ⟨x, y, z, e, m, hg, tr, r1, r2, q⟩
  unfold gtG at hg
  split at hg
  · rename_i i j
    cases hg
    cases r1.int
    cases r2.int
    exact op_gt pins s σ H _ _ v u Q I rx ry ⟨i, j, rfl, rfl, q _ _ Ext.refl (noKeep rfl) (.bl _)⟩
  · cases hg
theorem o_ge : OpR X (compareOp .GtE) (rG (gOf X T) geG) := by
  intro pins s σ H vx vy v u Q I rx ry ⟨x, y, z, e, m, hg, tr, r1, r2, q⟩
  unfold geG at hg
  split at hg
  · rename_i i j
    cases hg
    cases r1.int
    cases r2.int
    exact op_ge pins s σ H _ _ v u Q I rx ry ⟨i, j, rfl, rfl, q _ _ Ext.refl (noKeep rfl) (.bl _)⟩
  · cases hg
theorem o_eq (hu : X.A.units + 64 < cLine) : OpR X (compareOp .Eq) (rG (gOf X T) eqG) := by
  intro pins s σ H vx vy v u Q I rx ry ⟨x, y, z, e, m, hg, tr, r1, r2, q⟩
  unfold eqG at hg
  split at hg
  · rename_i hs
    cases hg
    have hs := Bool.and_eq_true_iff.mp hs
    exact op_eqD hu pins s σ H _ _ v u Q I rx ry ⟨x.P, y.P, r1.dp hs.1, r2.dp hs.2, hs.1, hs.2, q _ _ Ext.refl (noKeep rfl) (.bl _)⟩
  · cases hg
theorem o_ne (hu : X.A.units + 64 < cLine) : OpR X (compareOp .NotEq) (rG (gOf X T) neG) := by
  intro pins s σ H vx vy v u Q I rx ry ⟨x, y, z, e, m, hg, tr, r1, r2, q⟩
  unfold neG at hg
  split at hg
  · rename_i hs
    cases hg
    have hs := Bool.and_eq_true_iff.mp hs
    exact op_neD hu pins s σ H _ _ v u Q I rx ry ⟨x.P, y.P, r1.dp hs.1, r2.dp hs.2, hs.1, hs.2, q _ _ Ext.refl (noKeep rfl) (.bl _)⟩
  · cases hg
theorem RT.isn {G : Gc} {e : List Addr} {H : Hp} {d : D} {v : V} (r : RT G e H d v) : decide (v = V.non) = isNon d := by
  cases r with
  | of r => cases r <;> rfl
  | lst h r => rfl
  | dic h q r => rfl
theorem is_bb : OpR X (compareOp .Is) (fun x y H Q => ∃ a b : Bool, x = .bl a ∧ y = .bl b ∧ Q (.bl (a == b)) H) := by
  intro pins s σ H x y v u Q I rx ry h
  obtain ⟨a, b, rfl, rfl, q⟩ := h
  cases (show v = Value.bool a from rx)
  cases (show u = Value.bool b from ry)
  by_cases e : a = b
  · subst e
    exact wpAny_is_self rfl ⟨.bl true, H, I, rfl, by simpa using q⟩
  · exact wpAny_is_other rfl (fun z => e (Value.bool.inj z)) ⟨.bl false, H, I, rfl, by rw [beq_eq_false_iff_ne.mpr e] at q; exact q⟩
theorem isnot_bb : OpR X (compareOp .IsNot) (fun x y H Q => ∃ a b : Bool, x = .bl a ∧ y = .bl b ∧ Q (.bl (!(a == b))) H) := by
  intro pins s σ H x y v u Q I rx ry h
  obtain ⟨a, b, rfl, rfl, q⟩ := h
  cases (show v = Value.bool a from rx)
  cases (show u = Value.bool b from ry)
  by_cases e : a = b
  · subst e
    exact wpAny_isNot_self rfl ⟨.bl false, H, I, rfl, by simpa using q⟩
  · exact wpAny_isNot_other rfl (fun z => e (Value.bool.inj z)) ⟨.bl true, H, I, rfl, by rw [beq_eq_false_iff_ne.mpr e] at q; exact q⟩
theorem o_is : OpR X (compareOp .Is) (rG (gOf X T) isG) := by
  intro pins s σ H vx vy v u Q I rx ry ⟨x, y, z, e, m, hg, tr, r1, r2, q⟩
  unfold isG at hg
  split at hg
  · cases hg
    cases r2.non
    exact op_isN pins s σ H _ _ v u Q I rx ry ⟨rfl, q _ _ Ext.refl (noKeep rfl) (by rw [r1.isn]; exact .bl _)⟩
  · cases hg
    cases r1.bl
    cases r2.bl
    exact is_bb pins s σ H _ _ v u Q I rx ry ⟨_, _, rfl, rfl, q _ _ Ext.refl (noKeep rfl) (.bl _)⟩
  · cases hg
theorem o_isnot : OpR X (compareOp .IsNot) (rG (gOf X T) isNotG) := by
  intro pins s σ H vx vy v u Q I rx ry ⟨x, y, z, e, m, hg, tr, r1, r2, q⟩
  unfold isNotG at hg
  split at hg
  · cases hg
    cases r2.non
    exact op_notN pins s σ H _ _ v u Q I rx ry ⟨rfl, q _ _ Ext.refl (noKeep rfl) (by rw [r1.isn]; exact .bl _)⟩
  · cases hg
    cases r1.bl
    cases r2.bl
    exact isnot_bb pins s σ H _ _ v u Q I rx ry ⟨_, _, rfl, rfl, q _ _ Ext.refl (noKeep rfl) (.bl _)⟩
  · cases hg

/-! ### keys -/
end
mutual
def toN : D → Option NestedKey
  | .non => some .none
  | .bl b => some (.num (if b = true then 1 else 0))
  | .int i => some (.num i)
  | .str x => some (.text x)
  | .tup xs => (toNs xs).map .tup
  | _ => none
def toNs : List D → Option (List NestedKey)
  | [] => some []
  | d :: ds => match toN d, toNs ds with
    | some k, some ks => some (k :: ks)
    | _, _ => none
end
section
variable {G : Gc} {e : List Addr} {H : Hp}
mutual
theorem RV.rn : ∀ {d : D} {v : V} {k : NestedKey}, RV G e H d v → toN d = some k → RN G H k v
  | _, _, _, .non, h => by cases h; exact .none
  | _, _, _, .bl b, h => by cases h; exact .bl b
  | _, _, _, .int i, h => by cases h; exact .num i
  | _, _, _, .str x, h => by cases h; exact .text x
  | _, _, _, .tup h r, q => by
    simp only [toN, Option.map_eq_some_iff] at q
    obtain ⟨ks, q, rfl⟩ := q
    exact .tup h (RVs.rns r q)
  | _, _, _, .lst _ _ _, h => by cases h
  | _, _, _, .dic _ _ _ _, h => by cases h
  | _, _, _, .scr _, h => by cases h
theorem RVs.rns : ∀ {ds : List D} {vs : List V} {ks : List NestedKey}, RVs G e H ds vs → toNs ds = some ks → RNs G H ks vs
  | _, _, _, .nil, h => by cases h; exact .nil
  | _, _, _, .cons r t, h => by
    unfold toNs at h
    split at h
    · rename_i k ks h1 h2
      cases h
      exact .cons (RV.rn r h1) (RVs.rns t h2)
    · cases h
end
theorem RT.rn {d : D} {v : V} {k : NestedKey} (r : RT G e H d v) (h : toN d = some k) : RN G H k v := by
  cases r with
  | of r => exact r.rn h
  | lst _ _ => cases h
  | dic _ _ _ => cases h
end
def dget : List NestedKey → List D → NestedKey → Option D
  | k :: ks, v :: vs, x => if k = x then some v else dget ks vs x
  | _, _, _ => none
def inG : D → D → Option D
  | x, .lst ys => if sh x && sh (.lst ys) then some (.bl (ys.any fun z => eqD z x)) else none
  | x, .tup ys => if sh x && sh (.tup ys) then some (.bl (ys.any fun z => eqD z x)) else none
  | .str x, .str y => match x.cps.toList with
    | [c] => some (.bl (decide (c ∈ y.cps.toList)))
    | _ => none
  | .int i, .dic false ks vs => some (.bl (decide (NestedKey.num i ∈ ks)))
  | .str x, .dic false ks vs => some (.bl (decide (NestedKey.text x ∈ ks)))
  | .tup xs, .dic true ks vs => match toN (.tup xs) with
    | some k => if k.depth ≤ 8 then some (.bl (decide (k ∈ ks))) else none
    | none => none
  | _, _ => none
def notInG : D → D → Option D
  | x, .lst ys => if sh x && sh (.lst ys) then some (.bl (!(ys.any fun z => eqD z x))) else none
  | x, .tup ys => if sh x && sh (.tup ys) then some (.bl (!(ys.any fun z => eqD z x))) else none
  | .str x, .str y => match x.cps.toList with
    | [c] => some (.bl (!decide (c ∈ y.cps.toList)))
    | _ => none
  | .int i, .dic false ks vs => some (.bl (!decide (NestedKey.num i ∈ ks)))
  | .str x, .dic false ks vs => some (.bl (!decide (NestedKey.text x ∈ ks)))
  | .tup xs, .dic true ks vs => match toN (.tup xs) with
    | some k => if k.depth ≤ 8 then some (.bl (!decide (k ∈ ks))) else none
    | none => none
  | _, _ => none
theorem Ps_any (x : D) : ∀ ys : List D, ((Ps ys).any fun z => PyData.eqv z x.P) = ys.any fun z => eqD z x
  | [] => rfl
  | y :: ys => by simp only [Ps, List.any_cons, Ps_any x ys]; rfl

section
variable {X : Cx} {T : List (Addr × Str)} {pins : List (Addr × Obj)} {s : Shared} {σ : St} {H : Hp}
mutual
theorem RN.nested (I : Inv X pins σ H s) : ∀ (k : NestedKey) (v : V) (u : Value), RN (gOf X T) H k v → RelV v u → NestedIs s.heap k u
  | .none, _, _, h, r => by cases h; cases r; exact .none
  | .num i, _, _, h, r => by
    cases h with
    | bl b => cases r; exact .bool rfl
    | num i => obtain ⟨t, rfl⟩ := r; exact .int i t
  | .text x, _, _, h, r => by cases h; obtain ⟨t, rfl⟩ := r; exact .text x t
  | .tup ks, _, _, h, r => by
    cases h with
    | tup h q =>
      cases r
      obtain ⟨its, rv, ⟨o, ho, hc, n, hd⟩, _⟩ := I.tuple h
      exact .tup ho hc hd (RNs.nested I ks _ _ q rv)
theorem RNs.nested (I : Inv X pins σ H s) : ∀ (ks : List NestedKey) (vs : List V) (us : List Value), RNs (gOf X T) H ks vs → Vals vs us → NestedAll s.heap ks us
  | [], _, _, h, r => by cases h; cases r; exact .nil
  | k :: ks, _, _, h, r => by
    cases h with
    | cons h1 h2 => cases r with
      | cons r1 r2 => exact .cons (RN.nested I k _ _ h1 r1) (RNs.nested I ks _ _ h2 r2)
end
abbrev PT3 : List (NestedKey × Addr × V) → List (NestedKey × Addr × Value) → Prop :=
  Paired (fun (p : NestedKey × Addr × V) (q : NestedKey × Addr × Value) => p.1 = q.1 ∧ p.2.1 = q.2.1 ∧ RelV p.2.2 q.2.2)
theorem dicN_at {a : Addr} {ts : List (NestedKey × Addr × V)} (I : Inv X pins σ H s) (h : H a = some (dicN X.prog X.w a ts)) (hk : ∀ t ∈ ts, RN (gOf X T) H t.1 (.ref t.2.1) ∧ t.1.depth ≤ 8) :
    ts.length ≤ sizeLine ∧ (a == sysModules) = false ∧ ∃ us, PT3 ts us ∧ s.heap.DictOfH (nestedKind X.prog X.w) a us := by
  obtain ⟨⟨h1, h2, us, h3, o, es, ep, h4, h5, h6, h7, h8⟩, _⟩ := (show ObjOk X.prog X.w H s.heap a (dicN X.prog X.w a ts) from I.hok a _ h)
  refine ⟨h1, h2, us, h3, o, es, ep, h4, h5, h6, h7, ?_, h8⟩
  have all : ∀ {l : List (NestedKey × Addr × V)} {m : List (NestedKey × Addr × Value)}, PT3 l m → (∀ t ∈ l, RN (gOf X T) H t.1 (.ref t.2.1) ∧ t.1.depth ≤ 8) → ∀ x ∈ m, (nestedKind X.prog X.w).is s.heap x.1 x.2.1 := by
    intro l m q
    induction q with
    | nil => intro _ x hx; cases hx
    | @cons p q ps qs hq t ih =>
      intro hl x hx
      rcases List.mem_cons.mp hx with e | hx
      · subst e
        obtain ⟨r, d⟩ := hl p List.mem_cons_self
        rw [← hq.1, ← hq.2.1]
        exact ⟨RN.nested I _ _ _ r rfl, d⟩
      · exact ih (fun t ht => hl t (List.mem_cons_of_mem _ ht)) x hx
  exact all h3 hk
/-- what a dict of tuple keys has at a key -/
theorem atKey_get {G : Gc} {e : List Addr} {H : Hp} (k : NestedKey) : ∀ {ts : List (NestedKey × Addr × V)} {us : List (NestedKey × Addr × Value)} {ds : List D}, PT3 ts us → RVs G e H ds (ts.map (·.2.2)) →
    (∀ d, dget (ts.map (·.1)) ds k = some d → ∃ p v, atKey us k = some p ∧ RelV v p.2 ∧ RV G e H d v) ∧ (atKey us k).isSome = decide (k ∈ ts.map (·.1))
  | _, _, ds, .nil, r => by
    cases r
    exact ⟨fun d h => (by simp [dget] at h), by simp [atKey]⟩
  | p :: ts, q :: us, ds, .cons h t, r => by
    cases r with
    | @cons d v ds vs r1 r2 =>
      obtain ⟨i1, i2⟩ := atKey_get k t r2
      by_cases e1 : p.1 = k
      · have e2 : q.1 = k := h.1.symm.trans e1
        refine ⟨fun d' hd => ?_, ?_⟩
        · simp only [List.map_cons, dget, e1, if_true, Option.some.injEq] at hd
          subst hd
          exact ⟨q.2, p.2.2, by simp [atKey, e2], h.2.2, r1⟩
        · simp [atKey, e2, e1]
      · have e2 : ¬ q.1 = k := fun z => e1 (h.1.trans z)
        have e3 : atKey (q :: us) k = atKey us k := by simp [atKey, List.find?_cons, e2]
        refine ⟨fun d' hd => ?_, ?_⟩
        · simp only [List.map_cons, dget, e1, if_false] at hd
          rw [e3]
          exact i1 d' hd
        · rw [e3, i2]
          have : ¬ k = p.1 := fun z => e1 z.symm
          simp [this]
theorem kN_inj {a b : Key} (h : kN a = kN b) : a = b := by
  cases a <;> cases b <;> cases h <;> rfl
theorem valV_get {G : Gc} {e : List Addr} {H : Hp} (k : Key) : ∀ {kk : List Key} {xs : List V} {ds : List D}, kk.length = xs.length → RVs G e H ds xs →
    (∀ d, dget (kk.map kN) ds (kN k) = some d → ∃ v, valV (kk.zip xs) k = some v ∧ RV G e H d v) ∧ (valV (kk.zip xs) k).isSome = decide (kN k ∈ kk.map kN)
  | [], _, ds, _, r => ⟨fun d h => (by simp [dget] at h), by simp [valV]⟩
  | j :: kk, _, ds, hl, r => by
    cases r with
    | nil => simp at hl
    | @cons d v ds vs r1 r2 =>
      obtain ⟨i1, i2⟩ := valV_get k (kk := kk) (by simpa using hl) r2
      by_cases e1 : j = k
      · subst e1
        refine ⟨fun d' hd => ?_, ?_⟩
        · simp only [List.map_cons, dget, if_true, Option.some.injEq] at hd
          subst hd
          exact ⟨v, by rw [List.zip_cons_cons, valV_pos rfl], r1⟩
        · rw [List.zip_cons_cons, valV_pos rfl]; simp
      · have e2 : ¬ kN j = kN k := fun z => e1 (kN_inj z)
        refine ⟨fun d' hd => ?_, ?_⟩
        · simp only [List.map_cons, dget, e2, if_false] at hd
          rw [List.zip_cons_cons, valV_neg e1]
          exact i1 d' hd
        · rw [List.zip_cons_cons, valV_neg e1, i2]
          have : ¬ kN k = kN j := fun z => e2 z.symm
          simp [this]

theorem o_in (hu : X.A.units + 65 < cLine) : OpR X (compareOp .In) (rG (gOf X T) inG) := by
  intro pins s σ H vx vy v u Q I rx ry ⟨x, y, z, e, m, hg, tr, r1, r2, q⟩
  unfold inG at hg
  split at hg
  · rename_i ys
    split at hg
    · rename_i hs
      cases hg
      have hs := Bool.and_eq_true_iff.mp hs
      exact op_inD hu pins s σ H _ _ v u Q I rx ry ⟨x.P, Ps ys, r1.dp hs.1, r2.dp hs.2, hs.1, hs.2, by rw [Ps_any]; exact q _ _ Ext.refl (noKeep rfl) (.bl _)⟩
    · cases hg
  · rename_i ys
    split at hg
    · rename_i hs
      cases hg
      have hs := Bool.and_eq_true_iff.mp hs
      obtain ⟨as, q1⟩ := Dp.reads I _ _ v (r1.dp hs.1) rx
      obtain ⟨bs, q2⟩ := Dp.reads I _ _ u (r2.dp hs.2) ry
      exact SeqAt.in_tuple_reads q2 q1 (SeqAt.canLay_of_shaped hs.2) (SeqAt.canLay_of_shaped hs.1) (room_in_shaped hs.1 hu) ⟨.bl _, H, I, rfl, by rw [Ps_any]; exact q _ _ Ext.refl (noKeep rfl) (.bl _)⟩
    · cases hg
  · rename_i x y
    split at hg
    · rename_i c hc
      cases hg
      cases r1.str
      cases r2.str
      refine op_in_sign pins s σ H _ _ v u Q I rx ry ⟨c, y, ?_, rfl, q _ _ Ext.refl (noKeep rfl) (.bl _)⟩
      rw [show x = ⟨#[c]⟩ from by cases x; simp only at hc; congr; simpa using congrArg List.toArray hc]
    · cases hg
  · rename_i i ks vs
    cases hg
    cases r1.int
    obtain ⟨a, o, xs, rfl, h1, h2, h3⟩ := r2.dic'
    cases h2 with
    | k kk xs hl =>
      cases ry
      exact d_in (by omega) I (DGet.k (k := .inl i) h1) rx fun s' I' => ⟨.bl _, H, I', rfl, by
        rw [(valV_get (.inl i) hl h3).2]
        exact q _ _ Ext.refl (noKeep rfl) (.bl _)⟩
  · rename_i i ks vs
    cases hg
    cases r1.str
    obtain ⟨a, o, xs, rfl, h1, h2, h3⟩ := r2.dic'
    cases h2 with
    | k kk xs hl =>
      cases ry
      exact d_in (by omega) I (DGet.k (k := .inr i) h1) rx fun s' I' => ⟨.bl _, H, I', rfl, by
        rw [(valV_get (.inr i) hl h3).2]
        exact q _ _ Ext.refl (noKeep rfl) (.bl _)⟩
  · rename_i ds ks vs
    split at hg
    · rename_i k hk
      split at hg
      · rename_i hd
        cases hg
        obtain ⟨a, o, xs, rfl, h1, h2, h3⟩ := r2.dic'
        obtain ⟨p, ps, rfl, t1, t2⟩ := r1.tup
        cases h2 with
        | n ts hts =>
          cases ry
          cases rx
          obtain ⟨z1, z2, us, z3, z4⟩ := dicN_at I h1 hts
          refine wpAny_in_heap (knd := nestedKind X.prog X.w) (k := k) (show X.A.units + 1 + 8 < cLine by omega) ⟨RN.nested I _ _ _ (r1.rn hk) rfl, hd⟩ z2 z4 ?_
          rw [(atKey_get k z3 h3).2]
          exact ⟨.bl _, H, I.tok _, rfl, q _ _ Ext.refl (noKeep rfl) (.bl _)⟩
      · cases hg
    · cases hg
  · cases hg
theorem o_notIn (hu : X.A.units + 65 < cLine) : OpR X (compareOp .NotIn) (rG (gOf X T) notInG) := by
  intro pins s σ H vx vy v u Q I rx ry ⟨x, y, z, e, m, hg, tr, r1, r2, q⟩
  unfold notInG at hg
  split at hg
  · rename_i ys
    split at hg
    · rename_i hs
      cases hg
      have hs := Bool.and_eq_true_iff.mp hs
      exact op_notInD hu pins s σ H _ _ v u Q I rx ry ⟨x.P, Ps ys, r1.dp hs.1, r2.dp hs.2, hs.1, hs.2, by rw [Ps_any]; exact q _ _ Ext.refl (noKeep rfl) (.bl _)⟩
    · cases hg
  · rename_i ys
    split at hg
    · rename_i hs
      cases hg
      have hs := Bool.and_eq_true_iff.mp hs
      obtain ⟨as, q1⟩ := Dp.reads I _ _ v (r1.dp hs.1) rx
      obtain ⟨bs, q2⟩ := Dp.reads I _ _ u (r2.dp hs.2) ry
      exact SeqAt.notIn_tuple_reads q2 q1 (SeqAt.canLay_of_shaped hs.2) (SeqAt.canLay_of_shaped hs.1) (room_in_shaped hs.1 hu) ⟨.bl _, H, I, rfl, by rw [Ps_any]; exact q _ _ Ext.refl (noKeep rfl) (.bl _)⟩
    · cases hg
  · rename_i x y
    split at hg
    · rename_i c hc
      cases hg
      cases r1.str
      cases r2.str
      refine op_notIn_sign pins s σ H _ _ v u Q I rx ry ⟨c, y, ?_, rfl, q _ _ Ext.refl (noKeep rfl) (.bl _)⟩
      rw [show x = ⟨#[c]⟩ from by cases x; simp only at hc; congr; simpa using congrArg List.toArray hc]
    · cases hg
  · rename_i i ks vs
    cases hg
    cases r1.int
    obtain ⟨a, o, xs, rfl, h1, h2, h3⟩ := r2.dic'
    cases h2 with
    | k kk xs hl =>
      cases ry
      exact d_notIn (by omega) I (DGet.k (k := .inl i) h1) rx fun s' I' => ⟨.bl _, H, I', rfl, by
        rw [(valV_get (.inl i) hl h3).2]
        exact q _ _ Ext.refl (noKeep rfl) (.bl _)⟩
  · rename_i i ks vs
    cases hg
    cases r1.str
    obtain ⟨a, o, xs, rfl, h1, h2, h3⟩ := r2.dic'
    cases h2 with
    | k kk xs hl =>
      cases ry
      exact d_notIn (by omega) I (DGet.k (k := .inr i) h1) rx fun s' I' => ⟨.bl _, H, I', rfl, by
        rw [(valV_get (.inr i) hl h3).2]
        exact q _ _ Ext.refl (noKeep rfl) (.bl _)⟩
  · rename_i ds ks vs
    split at hg
    · rename_i k hk
      split at hg
      · rename_i hd
        cases hg
        obtain ⟨a, o, xs, rfl, h1, h2, h3⟩ := r2.dic'
        obtain ⟨p, ps, rfl, t1, t2⟩ := r1.tup
        cases h2 with
        | n ts hts =>
          cases ry
          cases rx
          obtain ⟨z1, z2, us, z3, z4⟩ := dicN_at I h1 hts
          refine wpAny_notIn_heap (knd := nestedKind X.prog X.w) (k := k) (show X.A.units + 1 + 8 < cLine by omega) ⟨RN.nested I _ _ _ (r1.rn hk) rfl, hd⟩ z2 z4 ?_
          rw [(atKey_get k z3 h3).2]
          exact ⟨.bl _, H, I.tok _, rfl, q _ _ Ext.refl (noKeep rfl) (.bl _)⟩
      · cases hg
    · cases hg
  · cases hg
end
end Mir

/-! Mir5: subscripts, slices, and, or, not, if-else, chains. -/
namespace Mir
open PySem PySem.Spec PyProof.Rows L2

def ixG : D → D → Option D
  | .lst xs, .int i => atI xs i
  | .tup xs, .int i => atI xs i
  | .str z, .int i => if z.length ≤ big then (atI z.cps.toList i).map fun c => .str ⟨#[c]⟩ else none
  | .dic false ks vs, .int i => dget ks vs (.num i)
  | .dic false ks vs, .str x => dget ks vs (.text x)
  | .dic true ks vs, .tup xs => match toN (.tup xs) with
    | some k => if k.depth ≤ 8 then dget ks vs k else none
    | none => none
  | _, _ => none
theorem RVs.atI {G : Gc} {e : List Addr} {H : Hp} {ds : List D} {vs : List V} {i : Int} {d : D} (r : RVs G e H ds vs) (h : L2.atI ds i = some d) : ∃ v, L2.atI vs i = some v ∧ RV G e H d v := by
  unfold L2.atI at h ⊢
  rw [← r.len]
  cases q : ixN ds.length i with
  | none => rw [q] at h; cases h
  | some j =>
    rw [q] at h
    simp only [Option.bind_some] at h ⊢
    exact r.get h
section
variable {X : Cx} {T : List (Addr × Str)} {W : WX}
theorem o_ix (hu : X.A.units + 65 < cLine) : IxR X (rG (gOf X T) ixG) := by
  intro value slice pins s σ H vx vy v u Q I rx ry ⟨x, y, z, e, m, hg, tr, r1, r2, q⟩ hs
  unfold ixG at hg
  split at hg
  · rename_i xs i
    cases r2.int
    obtain ⟨a, vs, rfl, h1, h2⟩ := r1.lst'
    obtain ⟨w, h3, h4⟩ := h2.atI hg
    exact ix_list value slice pins s σ H _ _ v u Q I rx ry ⟨a, vs, i, w, rfl, rfl, .of h1, h3, q _ _ Ext.refl (noKeep rfl) h4⟩ hs
  · rename_i xs i
    cases r2.int
    obtain ⟨a, vs, rfl, h1, h2⟩ := r1.tup
    obtain ⟨w, h3, h4⟩ := h2.atI hg
    exact ix_tup value slice pins s σ H _ _ v u Q I rx ry ⟨a, vs, i, w, rfl, rfl, h1, h3, q _ _ Ext.refl (noKeep rfl) h4⟩ hs
  · rename_i xs i
    split at hg
    · rename_i hl
      cases r2.int
      cases r1.str
      simp only [Option.map_eq_some_iff] at hg
      obtain ⟨c, hc, rfl⟩ := hg
      exact ix_str value slice pins s σ H _ _ v u Q I rx ry ⟨xs, i, c, rfl, rfl, big_ok hl, hc, q _ _ Ext.refl (noKeep rfl) (.str _)⟩ hs
    · cases hg
  · rename_i ks ds i
    cases r2.int
    obtain ⟨a, o, xs, rfl, h1, h2, h3⟩ := r1.dic'
    cases h2 with
    | k kk xs hl =>
      cases rx
      obtain ⟨w, h4, h5⟩ := (valV_get (.inl i) hl h3).1 z hg
      have g : DGet H a (kV (.inl i)) (some w) := h4 ▸ DGet.k (k := .inl i) h1
      exact tail_any (dict_typeIs I g) PySem.F.slot_dict_getitem.lookup (d_getItem (by omega) I g ry fun w' s' I' r' => ⟨w, H, I', r', q _ _ Ext.refl (noKeep rfl) h5⟩) hs
  · rename_i ks ds i
    cases r2.str
    obtain ⟨a, o, xs, rfl, h1, h2, h3⟩ := r1.dic'
    cases h2 with
    | k kk xs hl =>
      cases rx
      obtain ⟨w, h4, h5⟩ := (valV_get (.inr i) hl h3).1 z hg
      have g : DGet H a (kV (.inr i)) (some w) := h4 ▸ DGet.k (k := .inr i) h1
      exact tail_any (dict_typeIs I g) PySem.F.slot_dict_getitem.lookup (d_getItem (by omega) I g ry fun w' s' I' r' => ⟨w, H, I', r', q _ _ Ext.refl (noKeep rfl) h5⟩) hs
  · rename_i ks ds xs
    split at hg
    · rename_i k hk
      split at hg
      · rename_i hd
        obtain ⟨a, o, xs, rfl, h1, h2, h3⟩ := r1.dic'
        obtain ⟨p, ps, rfl, t1, t2⟩ := r2.tup
        cases h2 with
        | n ts hts =>
          cases ry
          cases rx
          obtain ⟨z1, z2, us, z3, z4⟩ := dicN_at I h1 hts
          obtain ⟨p', w, h4, h5, h6⟩ := (atKey_get k z3 h3).1 z hg
          exact tail_any z4.typeIs PySem.F.slot_dict_getitem.lookup (wpAny_getItem_heap (knd := nestedKind X.prog X.w) (k := k) (show X.A.units + 1 + 8 < cLine by omega) ⟨RN.nested I _ _ _ (r2.rn hk) rfl, hd⟩ z4 h4
            ⟨w, H, I.tok _, h5, q _ _ Ext.refl (noKeep rfl) h6⟩) hs
      · cases hg
    · cases hg
  · cases hg
theorem e_ix {a b : Expr} {f1 f2 : ME} {pos : Pos} (hu : X.A.units + 65 < cLine) (ha : PE X a (tE (gOf X T) W f1)) (hb : PE X b (tE (gOf X T) W f2)) (hs : PlainIx b := by intro _ _; rfl) : PE X (.Subscript a b pos) (tE (gOf X T) W (op2M ixG f1 f2)) :=
  pe_mono (pe_ix (o_ix hu) ha hb hs) fun σ H Q h => op2_red (a := fun _ _ _ => True) (b := fun _ _ _ => True) h

/-! ### slices -/
def cutL {α : Type} (xs : List α) (lo hi : Option Int) : List α := (xs.drop (HT.sIx xs.length 0 lo)).take (HT.sIx xs.length xs.length hi - HT.sIx xs.length 0 lo)
def slG : D → Option Int → Option Int → Option D
  | .lst xs, lo, hi => some (.lst (cutL xs lo hi))
  | .tup xs, lo, hi => some (.tup (cutL xs lo hi))
  | .str z, lo, hi => if z.length ≤ big then some (.str (cutS z lo hi)) else none
  | _, _, _ => none
abbrev MO := Env → Sto → O (Option Int)
def noP : MO := fun _ S => .ok none S
def someP (f : ME) : MO := fun ρ S => (f ρ S).bind fun u S1 => match u with
  | .d (.int i) => .ok (some i) S1
  | _ => .un
def slM (f : ME) (lo hi : MO) : ME := fun ρ S => (f ρ S).bind fun u S1 => (lo ρ S1).bind fun l S2 => (hi ρ S2).bind fun h S3 =>
  match rd S3 u with
  | some x => match slG x l h with
    | some z => .ok (.d z) S3
    | none => .un
  | none => .un
def tO (G : Gc) (W : WX) (f : MO) : TO := fun σ H Q => ∃ x m ρ S, Rp G x m H ρ S σ ∧ Post G W x m σ H (f ρ S) fun o _ _ H' => Q o H'
theorem po_mono {e : Option Expr} {t t' : TO} (h : PO X e t) (q : ∀ σ H Q, t' σ H Q → t σ H Q) : PO X e t' := ⟨fun pins s σ H Q I w => h.run pins s σ H Q I (q σ H Q w)⟩
theorem p_none : PO X none (tO (gOf X T) W noP) := po_mono po_none fun σ H Q h => by
  obtain ⟨x, m, ρ, S, p, h⟩ := h
  exact h m H Ext.refl p.sto
theorem p_some {e : Expr} {f : ME} (h : PE X e (tE (gOf X T) W f)) : PO X (some e) (tO (gOf X T) W (someP f)) := po_mono (po_some h) fun σ H Q h => by
  obtain ⟨x, m, ρ, S, p, h⟩ := h
  refine ⟨x, m, ρ, S, p, (Post.bind h).mono fun u S1 m1 H1 E1 R1 ⟨_, _, h1⟩ v rv => ?_⟩
  split at h1
  · cases rv with
    | d r => cases r; exact ⟨_, rfl, h1 m1 H1 Ext.refl R1⟩
  · exact h1.elim
theorem RVs.cut {G : Gc} {e : List Addr} {H : Hp} {ds : List D} {vs : List V} (r : RVs G e H ds vs) (lo hi : Option Int) : RVs G e H (cutL ds lo hi) (cutV vs lo hi) := by
  unfold cutL cutV
  rw [r.len]
  exact (r.drop _).take _
theorem cut_whole {α : Type} {xs : List α} {lo hi : Option Int} (h : HT.sIx xs.length 0 lo = 0 ∧ HT.sIx xs.length xs.length hi = xs.length) : cutL xs lo hi = xs := by
  unfold cutL
  rw [h.1, h.2]
  simp
def rSl (G : Gc) : V → Option Int → Option Int → Hp → VK → Prop := fun vx lo hi H Q => ∃ x z e m, slG x lo hi = some z ∧ (∀ b ∈ e, ∃ o, H b = some o) ∧ RT G e H x vx ∧
  ∀ H' w, Ext G m H m H' → (∀ a ∈ m, H a ≠ none → H' a = H a) → RV G e H' z w → Q w H'
theorem o_sl : SlR X (rSl (gOf X T)) := by
  intro pins s σ H vx v vl vu lo hi sl Q I rx hs pl pu ⟨x, z, e, m, hg, tr, r1, q⟩
  unfold slG at hg
  split at hg
  · cases hg
    obtain ⟨a, xs, rfl, h1, h2⟩ := r1.lst'
    exact sl_list pins s σ H _ v vl vu _ _ sl Q I rx hs pl pu ⟨a, xs, rfl, .of h1, fun p np => q _ _ (Ext.new np) (newKeep np) (RV.newLst (h2.cut _ _) np tr)⟩
  · cases hg
    obtain ⟨a, xs, rfl, h1, h2⟩ := r1.tup
    refine sl_tupA pins s σ H _ v vl vu _ _ sl Q I rx hs pl pu ⟨a, xs, rfl, h1, fun hw => q _ _ Ext.refl (noKeep rfl) ?_, fun _ p np => q _ _ (Ext.new np) (newKeep np) (RV.newTup (h2.cut _ _) np tr)⟩
    rw [← h2.len] at hw
    rw [cut_whole hw]
    exact .tup h1 h2
  · split at hg
    · rename_i hl
      cases hg
      cases r1.str
      exact sl_str pins s σ H _ v vl vu _ _ sl Q I rx hs pl pu ⟨_, rfl, big_ok hl, q _ _ Ext.refl (noKeep rfl) (.str _)⟩
    · cases hg
  · cases hg
theorem e_sl {a : Expr} {lo hi : Option Expr} {f : ME} {fl fh : MO} {pos p2 : Pos} (ha : PE X a (tE (gOf X T) W f)) (hl : PO X lo (tO (gOf X T) W fl)) (hh : PO X hi (tO (gOf X T) W fh)) : PE X (.Subscript a (.Slice lo hi none p2) pos) (tE (gOf X T) W (slM f fl fh)) :=
  pe_mono (pe_slice (o_sl (T := T)) ha hl hh) fun σ H Q h => by
    obtain ⟨x, m, ρ, S, p, h⟩ := h
    refine ⟨x, m, ρ, S, p, (Post.bind h).mono fun u S1 m1 H1 E1 R1 ⟨_, _, h1⟩ v rv => ?_⟩
    refine ⟨x, m1, ρ, S1, p.ext E1 R1, (Post.bind h1).mono fun l S2 m2 H2 E2 R2 ⟨_, _, h2⟩ => ?_⟩
    have p2 := (p.ext E1 R1).ext E2 R2
    refine ⟨x, m2, ρ, S2, p2, (Post.bind h2).mono fun r S3 m3 H3 E3 R3 ⟨_, _, h3⟩ => ?_⟩
    have p3 := p2.ext E3 R3
    split at h3
    · rename_i dx q1
      split at h3
      · rename_i z q3
        exact ⟨dx, z, x ++ m3, m3, q3, p3.trk, ((rv.ext E2).ext E3).rt R3 q1, fun H' w' E4 hs r => h3 m3 H' E4 (R3.stay E4 fun a ha => hs a ha (by obtain ⟨o, q⟩ := R3.live ha; rw [q]; simp)) w' (.d r)⟩
      · exact h3.elim
    · exact h3.elim

/-! ### and, or, not -/
variable {a b c : Expr} {rest : List Expr} {f g k : ME} {tf tg : MT} {pos : Pos}
def andT (f g : MT) : MT := fun ρ S => (f ρ S).bind fun b S1 => if b = true then g ρ S1 else .ok false S1
def orT (f g : MT) : MT := fun ρ S => (f ρ S).bind fun b S1 => if b = true then .ok true S1 else g ρ S1
def notT (f : MT) : MT := fun ρ S => (f ρ S).bind fun b S1 => .ok (!b) S1
def andM (f g : ME) : ME := fun ρ S => (f ρ S).bind fun u S1 => match u with
  | .d (.bl true) => g ρ S1
  | .d (.bl false) => .ok (.d (.bl false)) S1
  | _ => .un
def orM (f g : ME) : ME := fun ρ S => (f ρ S).bind fun u S1 => match u with
  | .d (.bl true) => .ok (.d (.bl true)) S1
  | .d (.bl false) => g ρ S1
  | _ => .un
def notM (f : ME) : ME := fun ρ S => (f ρ S).bind fun u S1 => match u with
  | .d (.bl b) => .ok (.d (.bl (!b))) S1
  | _ => .un
def iteM (t : MT) (f g : ME) : ME := fun ρ S => (t ρ S).bind fun b S1 => if b = true then f ρ S1 else g ρ S1
theorem pw_mono {e : Expr} {t t' : TT} (h : PW X e t) (q : ∀ σ H Q, t' σ H Q → t σ H Q) : PW X e t' := ⟨fun wh pins s σ H Q I w => h.run wh pins s σ H Q I (q σ H Q w)⟩
theorem w_and1 (ha : PT X a (tT (gOf X T) W tf)) : PW X (.BoolOp .And [a] pos) (tT (gOf X T) W tf) := pw_and1 ha
theorem w_or1 (ha : PT X a (tT (gOf X T) W tf)) : PW X (.BoolOp .Or [a] pos) (tT (gOf X T) W tf) := pw_or1 ha
theorem w_and (ha : PT X a (tT (gOf X T) W tf)) (hb : PW X (.BoolOp .And (b :: rest) pos) (tT (gOf X T) W tg)) : PW X (.BoolOp .And (a :: b :: rest) pos) (tT (gOf X T) W (andT tf tg)) := pw_mono (pw_and ha hb) fun σ H Q h => by
  obtain ⟨x, m, ρ, S, p, h⟩ := h
  refine ⟨x, m, ρ, S, p, (Post.bind h).mono fun u S1 m1 H1 E1 R1 ⟨_, _, h1⟩ => ?_⟩
  cases u with
  | true => exact iteT ⟨x, m1, ρ, S1, p.ext E1 R1, by rw [if_pos rfl] at h1; exact h1⟩
  | false => exact iteF (by rw [if_neg Bool.false_ne_true] at h1; exact h1 m1 H1 Ext.refl R1)
theorem w_or (ha : PT X a (tT (gOf X T) W tf)) (hb : PW X (.BoolOp .Or (b :: rest) pos) (tT (gOf X T) W tg)) : PW X (.BoolOp .Or (a :: b :: rest) pos) (tT (gOf X T) W (orT tf tg)) := pw_mono (pw_or ha hb) fun σ H Q h => by
  obtain ⟨x, m, ρ, S, p, h⟩ := h
  refine ⟨x, m, ρ, S, p, (Post.bind h).mono fun u S1 m1 H1 E1 R1 ⟨_, _, h1⟩ => ?_⟩
  cases u with
  | true => exact iteT (by rw [if_pos rfl] at h1; exact h1 m1 H1 Ext.refl R1)
  | false => exact iteF ⟨x, m1, ρ, S1, p.ext E1 R1, by rw [if_neg Bool.false_ne_true] at h1; exact h1⟩
theorem t_not (ha : PT X a (tT (gOf X T) W tf)) : PT X (.UnaryOp .Not a pos) (tT (gOf X T) W (notT tf)) := pt_mono (pt_not ha) fun σ H Q h => by
  obtain ⟨x, m, ρ, S, p, h⟩ := h
  exact ⟨x, m, ρ, S, p, (Post.bind h).mono fun u S1 m1 H1 E1 R1 ⟨_, _, h1⟩ => h1 m1 H1 Ext.refl R1⟩
theorem e_one {op} (h : PE X a (tE (gOf X T) W f)) : PE X (.BoolOp op [a] pos) (tE (gOf X T) W f) := pe_one h
theorem RU.bl {G : Gc} {e m : List Addr} {H : Hp} {b : Bool} {v : V} (r : RU G e m H (.d (.bl b)) v) : v = .bl b := by
  cases r with
  | d r => cases r; rfl
theorem e_and (ha : PE X a (tE (gOf X T) W f)) (hb : PE X (.BoolOp .And (b :: rest) pos) (tE (gOf X T) W g)) : PE X (.BoolOp .And (a :: b :: rest) pos) (tE (gOf X T) W (andM f g)) := pe_mono (pe_and ha hb) fun σ H Q h => by
  obtain ⟨x, m, ρ, S, p, h⟩ := h
  refine ⟨x, m, ρ, S, p, (Post.bind h).mono fun u S1 m1 H1 E1 R1 ⟨_, _, h1⟩ v rv => ?_⟩
  split at h1
  · exact ⟨true, rv.bl, iteT ⟨x, m1, ρ, S1, p.ext E1 R1, h1⟩⟩
  · exact ⟨false, rv.bl, iteF (h1 m1 H1 Ext.refl R1 _ (.d (.bl false)))⟩
  · exact h1.elim
theorem e_or (ha : PE X a (tE (gOf X T) W f)) (hb : PE X (.BoolOp .Or (b :: rest) pos) (tE (gOf X T) W g)) : PE X (.BoolOp .Or (a :: b :: rest) pos) (tE (gOf X T) W (orM f g)) := pe_mono (pe_or ha hb) fun σ H Q h => by
  obtain ⟨x, m, ρ, S, p, h⟩ := h
  refine ⟨x, m, ρ, S, p, (Post.bind h).mono fun u S1 m1 H1 E1 R1 ⟨_, _, h1⟩ v rv => ?_⟩
  split at h1
  · exact ⟨true, rv.bl, iteT (h1 m1 H1 Ext.refl R1 _ (.d (.bl true)))⟩
  · exact ⟨false, rv.bl, iteF ⟨x, m1, ρ, S1, p.ext E1 R1, h1⟩⟩
  · exact h1.elim
theorem e_not (ha : PE X a (tE (gOf X T) W f)) : PE X (.UnaryOp .Not a pos) (tE (gOf X T) W (notM f)) := pe_mono (pe_not ha) fun σ H Q h => by
  obtain ⟨x, m, ρ, S, p, h⟩ := h
  refine ⟨x, m, ρ, S, p, (Post.bind h).mono fun u S1 m1 H1 E1 R1 ⟨_, _, h1⟩ v rv => ?_⟩
  split at h1
  · exact ⟨_, rv.bl, h1 m1 H1 Ext.refl R1 _ (.d (.bl _))⟩
  · exact h1.elim
theorem e_if (hc : PT X c (tT (gOf X T) W tf)) (ha : PE X a (tE (gOf X T) W f)) (hb : PE X b (tE (gOf X T) W g)) : PE X (.IfExp c a b pos) (tE (gOf X T) W (iteM tf f g)) := pe_mono (pe_ifExp hc ha hb) fun σ H Q h => by
  obtain ⟨x, m, ρ, S, p, h⟩ := h
  refine ⟨x, m, ρ, S, p, (Post.bind h).mono fun u S1 m1 H1 E1 R1 ⟨_, _, h1⟩ => ?_⟩
  cases u with
  | true => exact iteT ⟨x, m1, ρ, S1, p.ext E1 R1, by rw [if_pos rfl] at h1; exact h1⟩
  | false => exact iteF ⟨x, m1, ρ, S1, p.ext E1 R1, by rw [if_neg Bool.false_ne_true] at h1; exact h1⟩
/-- a < b < c -/
def chM (o1 o2 : D → D → Option D) (f g k : ME) : ME := fun ρ S => (f ρ S).bind fun u S1 => (g ρ S1).bind fun w S2 => match rd S2 u, rd S2 w with
  | some x, some y => match o1 x y with
    | some (.bl true) => (k ρ S2).bind fun w' S3 => match rd S3 w, rd S3 w' with
      | some y', some z => match o2 y' z with
        | some t => .ok (.d t) S3
        | none => .un
      | _, _ => .un
    | some (.bl false) => .ok (.d (.bl false)) S2
    | _ => .un
  | _, _ => .un
theorem ch_red {o1 o2 : D → D → Option D} {σ : St} {H : Hp} {Q : VK} (h : tE (gOf X T) W (chM o1 o2 f g k) σ H Q) : tChain (rG (gOf X T) o1) (rG (gOf X T) o2) (tE (gOf X T) W f) (tE (gOf X T) W g) (tE (gOf X T) W k) σ H Q := by
  obtain ⟨x, m, ρ, S, p, h⟩ := h
  refine ⟨x, m, ρ, S, p, (Post.bind h).mono fun u S1 m1 H1 E1 R1 ⟨_, _, h1⟩ v rv => ?_⟩
  refine ⟨x, m1, ρ, S1, p.ext E1 R1, (Post.bind h1).mono fun w S2 m2 H2 E2 R2 ⟨_, _, h2⟩ v' rv' => ?_⟩
  have p2 := (p.ext E1 R1).ext E2 R2
  split at h2
  · rename_i dx dy q1 q2
    have go : ∀ H' (E3 : Ext (gOf X T) m2 H2 m2 H'), (∀ a ∈ m2, H2 a ≠ none → H' a = H2 a) → RS (gOf X T) (x ++ m2) m2 H' S2 := fun H' E3 hs => R2.stay E3 fun a ha => hs a ha (by obtain ⟨o, q⟩ := R2.live ha; rw [q]; simp)
    split at h2
    · rename_i q3
      refine ⟨dx, dy, _, x ++ m2, m2, q3, p2.trk, (rv.ext E2).rt R2 q1, rv'.rt R2 q2, fun H' w' E3 hs r => ?_⟩
      cases r
      have R3 := go H' E3 hs
      have p3 := p2.ext E3 R3
      refine ⟨true, rfl, iteT ⟨x, m2, ρ, S2, p3, (Post.bind (Post.shift E3 h2)).mono fun t S4 m4 H4 E4 R4 ⟨_, _, h4⟩ v'' rv'' => ?_⟩⟩
      have p4 := p3.ext E4 R4
      split at h4
      · rename_i dy' dz q4 q5
        split at h4
        · rename_i z q6
          exact ⟨dy', dz, z, x ++ m4, m4, q6, p4.trk, ((rv'.ext E3).ext E4).rt R4 q4, rv''.rt R4 q5, fun H5 w5 E5 hs5 r5 => h4 m4 H5 E5 (R4.stay E5 fun a ha => hs5 a ha (by obtain ⟨o, q⟩ := R4.live ha; rw [q]; simp)) w5 (.d r5)⟩
        · exact h4.elim
      · exact h4.elim
    · rename_i q3
      refine ⟨dx, dy, _, x ++ m2, m2, q3, p2.trk, (rv.ext E2).rt R2 q1, rv'.rt R2 q2, fun H' w' E3 hs r => ?_⟩
      cases r
      exact ⟨false, rfl, iteF (h2 m2 H' E3 (go H' E3 hs) _ (.d (.bl false)))⟩
    · exact h2.elim
  · exact h2.elim
theorem e_ch {op op' : CmpOp} {o1 o2 : D → D → Option D} (ho : OpR X (compareOp op) (rG (gOf X T) o1)) (ho' : OpR X (compareOp op') (rG (gOf X T) o2)) (ha : PE X a (tE (gOf X T) W f)) (hb : PE X b (tE (gOf X T) W g)) (hc : PE X c (tE (gOf X T) W k))
    (hm : lastMarks [op, op'] [b, c] = false := by with_unfolding_all rfl) : PE X (.Compare a [op, op'] [b, c] pos) (tE (gOf X T) W (chM o1 o2 f g k)) := pe_mono (pe_chain ho ho' ha hb hc hm) fun σ H Q h => ch_red h
theorem t_ch {op op' : CmpOp} {o1 o2 : D → D → Option D} (ho : OpR X (compareOp op) (rG (gOf X T) o1)) (ho' : OpR X (compareOp op') (rG (gOf X T) o2)) (ha : PE X a (tE (gOf X T) W f)) (hb : PE X b (tE (gOf X T) W g)) (hc : PE X c (tE (gOf X T) W k))
    (hm : lastMarks [op, op'] [b, c] = false := by with_unfolding_all rfl) : PT X (.Compare a [op, op'] [b, c] pos) (tT (gOf X T) W (tstM (chM o1 o2 f g k))) := pt_mono (pt_chain ho ho' ha hb hc hm) fun σ H Q h => ch_red (tst_red (t := fun _ _ _ => True) h)
end
end Mir

/-! Mir6: defs: what is promised of them, how they are called, how a body's mirror gives the promise. -/
namespace Mir
open PySem PySem.Spec PyProof.Rows L2

/-- what a def makes of its arguments -/
inductive R where
  | ok (d : D) | ex (e : Exn) | un
  deriving Inhabited
/-- .. and of one cell -/
inductive R1 where
  | ok (d : D) (c : Cell) | ex (e : Exn) (c : Cell) | un
  deriving Inhabited
/-- .. a new cell -/
inductive RNw where
  | ok (c : Cell) | ex (e : Exn) | un
  deriving Inhabited

def PR (G : Gc) (x m : List Addr) (H : Hp) (r : R) (Q : VK) (E : XK) : Prop := match r with
  | .ok d => ∀ H' v, Ext G m H m H' → RV G x H' d v → Q v H'
  | .ex e => ∀ H' cls d, Ext G m H m H' → RX G x H' e cls d → E cls d H'
  | .un => False
def sp0 (G : Gc) (n : Nat) (F : List D → R) : Sp := fun vs H Q E => vs.length = n ∧ ∃ x ds, (∀ b ∈ x, Nt H b) ∧ LamX.Tabs G.T H ∧ RVs G x H ds vs ∧ PR G x [] H (F ds) Q E
def sp1 (G : Gc) (n p : Nat) (F : List D → Cell → R1) : Sp := fun vs H Q E => vs.length = n ∧ ∃ x a c o ds, (∀ b ∈ x, Nt H b) ∧ LamX.Tabs G.T H ∧ a ∈ x ∧ vs[p]? = some (.ref a) ∧ H a = some o ∧ RC G x H a c o ∧ RVs G x H ds (vs.eraseIdx p) ∧
  match F ds c with
  | .ok d c' => ∀ H' v o', Ext G [a] H [a] H' → H' a = some o' → RC G x H' a c' o' → RV G x H' d v → Q v H'
  | .ex e c' => ∀ H' o' cls d, Ext G [a] H [a] H' → H' a = some o' → RC G x H' a c' o' → RX G x H' e cls d → E cls d H'
  | .un => False
def spN (G : Gc) (n : Nat) (F : List D → RNw) : Sp := fun vs H Q E => vs.length = n ∧ ∃ x ds, (∀ b ∈ x, Nt H b) ∧ LamX.Tabs G.T H ∧ RVs G x H ds vs ∧
  match F ds with
  | .ok c => ∀ H' p o, Ext G [] H [p] H' → H' p = some o → RC G (x ++ [p]) H' p c o → Q (.ref p) H'
  | .ex e => ∀ H' cls d, Ext G [] H [] H' → RX G x H' e cls d → E cls d H'
  | .un => False

/-- a def that is known by its name -/
structure Kn (G : Gc) (base : Heap) (k : Nat) (x : Str) (sp : Sp) : Prop where
  ex : ∃ f fd ps, FnOk G.P G.w G.K G.mg base (L2.CX G.P G.w) k f fd ps sp ∧ G.mg x = some (.ref f) ∧ PySem.W.keepIn G.K (.ref f) = true ∧ Binds G.K fd ps []
theorem Kn.mono {G : Gc} {base : Heap} {j k : Nat} {x : Str} {sp : Sp} (h : Kn G base j x sp) (hk : j ≤ k) : Kn G base k x sp := by
  obtain ⟨f, fd, ps, a, b, c, d⟩ := h.ex
  exact ⟨f, fd, ps, a.mono hk, b, c, d⟩

theorem nd_ix : ∀ {N : List Addr}, N.Nodup → ∀ {i j : Nat} {x : Addr}, N[i]? = some x → N[j]? = some x → i = j
  | [], _, _, _, _, h, _ => by simp at h
  | a :: N, hn, 0, 0, _, _, _ => rfl
  | a :: N, hn, 0, j + 1, x, h, h' => by
    simp at h h'
    subst h
    exact absurd (List.mem_of_getElem? h') (List.nodup_cons.mp hn).1
  | a :: N, hn, i + 1, 0, x, h, h' => by
    simp at h h'
    subst h'
    exact absurd (List.mem_of_getElem? h) (List.nodup_cons.mp hn).1
  | a :: N, hn, i + 1, j + 1, x, h, h' => by
    simp at h h'
    rw [nd_ix (List.nodup_cons.mp hn).2 h h']
/-! ### weakening -/
section
variable {G : Gc} {e e' x m m' : List Addr} {H H' : Hp}
theorem keep_sub (h : ∀ a, a ∈ e' → a ∈ e) : Keep G e H e' H where
  tup := fun _ _ q => q
  lst := fun _ _ q => q
  lsk := fun _ _ q n => ⟨q, fun z => n (h _ z)⟩
  dic := fun _ _ _ _ _ q n r => ⟨q, fun z => n (h _ z), r⟩
theorem Ext.of_nil (E : Ext G [] H [] H') : Ext G m H m H' :=
  ⟨fun b o h _ t => E.keep b o h (fun z => by cases z) t, E.tups, E.frzs, E.owns, E.live, ⟨[], by simp, fun _ z => by cases z⟩, E.tab⟩
theorem Ext.of_one {a : Addr} (E : Ext G [a] H [a] H') (ha : a ∈ m) : Ext G m H m H' :=
  ⟨fun b o h hb t => E.keep b o h (fun z => hb (by have : b = a := by simpa using z
                                                   rw [this]; exact ha)) t, E.tups, E.frzs, E.owns, E.live, ⟨[], by simp, fun _ z => by cases z⟩, E.tab⟩
theorem Ext.of_new {a : Addr} (E : Ext G [] H [a] H') (hn : ¬ Nt H a) : Ext G m H (m ++ [a]) H' :=
  ⟨fun b o h _ t => E.keep b o h (fun z => by cases z) t, E.tups, E.frzs, E.owns, E.live, ⟨[a], rfl, fun b hb => by
    have e1 : b = a := by simpa using hb
    rw [e1]
    exact hn⟩, E.tab⟩
/-- what was made is forgotten -/
theorem Ext.drop (E : Ext G m H m' H') : Ext G m H m H' := ⟨E.keep, E.tups, E.frzs, E.owns, E.live, ⟨[], by simp, fun _ z => by cases z⟩, E.tab⟩
theorem RC.notbl {a : Addr} {c : Cell} {o : HO} (r : RC G e H a c o) : ∀ ps, o ≠ .tbl ps := by
  cases r with
  | lst _ => intro ps z; cases z
  | dic q _ => exact q.notbl
  | ins _ _ _ => intro ps z; cases z
theorem RC.keep {a : Addr} {c : Cell} {o : HO} (k : Keep G e H e' H') (ho : ∀ b y, H b = some (.own y) → H' b = some (.own y)) (r : RC G e H a c o) : RC G e' H' a c o := by
  cases r with
  | lst q => exact .lst (q.keep k)
  | dic q1 q => exact .dic (q1.ext fun _ _ z => k.tup _ _ z) (q.keep k)
  | ins g1 g2 q => exact .ins g1 (ho _ _ g2) (q.keep k)
theorem RS.stay0 {S : Sto} (r : RS G (x ++ m) m H S) (E : Ext G [] H [] H') : RS G (x ++ m) m H' S :=
  r.stay E.of_nil fun a ha => by
    obtain ⟨i, hi⟩ := List.getElem?_of_mem ha
    have hl : i < S.length := by rw [← r.len]; exact (List.getElem?_eq_some_iff.mp hi).1
    obtain ⟨o, h1, h2⟩ := r.at' i a _ hi (List.getElem?_eq_getElem hl)
    rw [h1]
    exact E.keep _ _ h1 (fun z => by cases z) h2.notbl
/-- one cell has changed -/
theorem RS.one {S : Sto} {i : Nat} {a : Addr} {c' : Cell} {o' : HO} (r : RS G (x ++ m) m H S) (E : Ext G [a] H [a] H') (hi : m[i]? = some a) (ho : H' a = some o') (hc : RC G (x ++ m) H' a c' o') : RS G (x ++ m) m H' (S.set i c') := by
  have E' : Ext G m H m H' := E.of_one (List.mem_of_getElem? hi)
  refine ⟨by rw [List.length_set]; exact r.len, r.nd, r.ins, fun j b c h1 h2 => ?_⟩
  by_cases hj : i = j
  · subst hj
    rw [hi] at h1; cases h1
    have hl : i < S.length := by
      have := (List.getElem?_eq_some_iff.mp h2).1
      rw [List.length_set] at this; exact this
    rw [List.getElem?_set_self hl] at h2
    cases h2
    exact ⟨o', ho, hc⟩
  · rw [List.getElem?_set_ne hj] at h2
    obtain ⟨o, q1, q2⟩ := r.at' j b c h1 h2
    have hb : b ≠ a := fun z => hj (nd_ix r.nd hi (by rw [← z]; exact h1))
    exact ⟨o, E.keep _ _ q1 (fun z => hb (by simpa using z)) q2.notbl, q2.ext E'⟩
end

/-! ### the call of a def -/
def callM (F : List D → R) (fs : List ME) : ME := fun ρ S => (argsM fs ρ S).bind fun us S1 => match pures us with
  | some ds => match F ds with
    | .ok d => .ok (.d d) S1
    | .ex e => .ex e S1
    | .un => .un
  | none => .un
def callC (p : Nat) (F : List D → Cell → R1) (fs : List ME) : ME := fun ρ S => (argsM fs ρ S).bind fun us S1 => match us[p]?, pures (us.eraseIdx p) with
  | some (.c i), some ds => match S1[i]? with
    | some c => match F ds c with
      | .ok d c' => .ok (.d d) (S1.set i c')
      | .ex e c' => .ex e (S1.set i c')
      | .un => .un
    | none => .un
  | _, _ => .un
def callN (F : List D → RNw) (fs : List ME) : ME := fun ρ S => (argsM fs ρ S).bind fun us S1 => match pures us with
  | some ds => match F ds with
    | .ok c => .ok (.c S1.length) (S1 ++ [c])
    | .ex e => .ex e S1
    | .un => .un
  | none => .un
theorem RUs.get {G : Gc} {e m : List Addr} {H : Hp} : ∀ {ds : List U} {vs : List V} {i : Nat} {d : U}, RUs G e m H ds vs → ds[i]? = some d → ∃ v, vs[i]? = some v ∧ RU G e m H d v
  | _, _, _, _, .nil, h => by simp at h
  | _, _, 0, _, .cons r _, h => by simp at h; subst h; exact ⟨_, rfl, r⟩
  | _, _, i + 1, _, .cons _ t, h => by
    obtain ⟨v, h1, h2⟩ := RUs.get (i := i) t (by simpa using h)
    exact ⟨v, by simpa using h1, h2⟩
theorem RUs.erase {G : Gc} {e m : List Addr} {H : Hp} : ∀ {ds : List U} {vs : List V} (i : Nat), RUs G e m H ds vs → RUs G e m H (ds.eraseIdx i) (vs.eraseIdx i)
  | _, _, _, .nil => by simp; exact .nil
  | _, _, 0, .cons _ t => by simpa using t
  | _, _, i + 1, .cons r t => by
    simp only [List.eraseIdx_cons_succ]
    exact .cons r (RUs.erase i t)
section
variable {X : Cx} {T : List (Addr × Str)} {W : WX} {k n p : Nat} {x : Str} {e : Expr} {es : List Expr} {fs : List ME} {pos px : Pos}
theorem e_call {F : List D → R} (h : Kn (gOf X T) X.base k x (sp0 (gOf X T) n F)) (hr : Room k X.A) (tk : Takes X W) (hn : Nat.beq fs.length n = true := by rfl) (ha : PA X (e :: es) (tA (gOf X T) W (argsM fs))) (hg : Gl X x := by rfl)
    (hdb : (x == ("__debug__" : Str)) = false := by decide) (he : starEach (e :: es) X.env = (false, eval e X.env) :: starEach es X.env := by rfl) (hpl : (backTo pos (starEach es X.env)).any (·.1) = false := by rfl) :
    PE X (.Call (.Name x px) (e :: es) [] pos) (tE (gOf X T) W (callM F fs)) := by
  obtain ⟨f, fd, ps, h1, h2, h3, h4⟩ := h.ex
  refine pe_mono (pe_callS h1 hr hg h2 h3 h4 (fun σ => passAt tk σ) ha hdb he hpl) fun σ H Q h => ?_
  obtain ⟨y, m, ρ, S, q, h⟩ := h
  cases q1 : argsM fs ρ S with
  | un => simp only [callM, q1, O.bind] at h; exact h.elim
  | ex ee S' =>
    refine ⟨y, m, ρ, S, q, ?_⟩
    simp only [callM, q1, O.bind] at h ⊢
    exact h
  | ok us S' =>
    refine ⟨y, m, ρ, S, q, ?_⟩
    rw [q1]
    intro m1 H1 E1 R1 vs rvs
    have p1 := q.ext E1 R1
    simp only [callM, q1, O.bind] at h
    refine ⟨by rw [← RUs.length rvs, argsM_len q1]; exact Nat.eq_of_beq_eq_true hn, ?_⟩
    split at h
    · rename_i ds hds
      refine ⟨y ++ m1, ds, p1.trkN, p1.tab, RUs.pure rvs hds, ?_⟩
      unfold PR
      split
      · rename_i d hd
        rw [hd] at h
        exact fun H' v E2 rv => h m1 H' (E1.trans E2.of_nil) (R1.stay0 E2) v (.d rv)
      · rename_i ee hd
        rw [hd] at h
        exact fun H' cls d E2 rx => h m1 H' cls d (E1.trans E2.of_nil) (R1.stay0 E2) rx
      · rename_i hd
        rw [hd] at h
        exact h
    · exact h.elim
theorem e_callC {F : List D → Cell → R1} (h : Kn (gOf X T) X.base k x (sp1 (gOf X T) n p F)) (hr : Room k X.A) (tk : Takes X W) (hn : Nat.beq fs.length n = true := by rfl) (ha : PA X (e :: es) (tA (gOf X T) W (argsM fs))) (hg : Gl X x := by rfl)
    (hdb : (x == ("__debug__" : Str)) = false := by decide) (he : starEach (e :: es) X.env = (false, eval e X.env) :: starEach es X.env := by rfl) (hpl : (backTo pos (starEach es X.env)).any (·.1) = false := by rfl) :
    PE X (.Call (.Name x px) (e :: es) [] pos) (tE (gOf X T) W (callC p F fs)) := by
  obtain ⟨f, fd, ps, h1, h2, h3, h4⟩ := h.ex
  refine pe_mono (pe_callS h1 hr hg h2 h3 h4 (fun σ => passAt tk σ) ha hdb he hpl) fun σ H Q h => ?_
  obtain ⟨y, m, ρ, S, q, h⟩ := h
  cases q1 : argsM fs ρ S with
  | un => simp only [callC, q1, O.bind] at h; exact h.elim
  | ex ee S' =>
    refine ⟨y, m, ρ, S, q, ?_⟩
    simp only [callC, q1, O.bind] at h ⊢
    exact h
  | ok us S' =>
    refine ⟨y, m, ρ, S, q, ?_⟩
    rw [q1]
    intro m1 H1 E1 R1 vs rvs
    have p1 := q.ext E1 R1
    simp only [callC, q1, O.bind] at h
    refine ⟨by rw [← RUs.length rvs, argsM_len q1]; exact Nat.eq_of_beq_eq_true hn, ?_⟩
    split at h
    · rename_i i ds hp hds
      split at h
      · rename_i c hc
        obtain ⟨v, g1, g2⟩ := RUs.get rvs hp
        cases g2 with
        | @c _ a ha' =>
          obtain ⟨o, o1, o2⟩ := R1.at' i a c ha' hc
          have hm : a ∈ m1 := List.mem_of_getElem? ha'
          refine ⟨y ++ m1, a, c, o, ds, p1.trkN, p1.tab, List.mem_append_right _ hm, g1, o1, o2, RUs.pure (rvs.erase p) hds, ?_⟩
          split
          · rename_i d c' hd
            rw [hd] at h
            exact fun H' v o' E2 ho' rc rv => h m1 H' (E1.trans (E2.of_one hm)) (R1.one E2 ha' ho' rc) v (.d rv)
          · rename_i ee c' hd
            rw [hd] at h
            exact fun H' o' cls d E2 ho' rc rx => h m1 H' cls d (E1.trans (E2.of_one hm)) (R1.one E2 ha' ho' rc) rx
          · rename_i hd
            rw [hd] at h
            exact h
      · exact h.elim
    · exact h.elim
theorem e_callN {F : List D → RNw} (h : Kn (gOf X T) X.base k x (spN (gOf X T) n F)) (hr : Room k X.A) (tk : Takes X W) (hn : Nat.beq fs.length n = true := by rfl) (ha : PA X (e :: es) (tA (gOf X T) W (argsM fs))) (hg : Gl X x := by rfl)
    (hdb : (x == ("__debug__" : Str)) = false := by decide) (he : starEach (e :: es) X.env = (false, eval e X.env) :: starEach es X.env := by rfl) (hpl : (backTo pos (starEach es X.env)).any (·.1) = false := by rfl) :
    PE X (.Call (.Name x px) (e :: es) [] pos) (tE (gOf X T) W (callN F fs)) := by
  obtain ⟨f, fd, ps, h1, h2, h3, h4⟩ := h.ex
  refine pe_mono (pe_callS h1 hr hg h2 h3 h4 (fun σ => passAt tk σ) ha hdb he hpl) fun σ H Q h => ?_
  obtain ⟨y, m, ρ, S, q, h⟩ := h
  cases q1 : argsM fs ρ S with
  | un => simp only [callN, q1, O.bind] at h; exact h.elim
  | ex ee S' =>
    refine ⟨y, m, ρ, S, q, ?_⟩
    simp only [callN, q1, O.bind] at h ⊢
    exact h
  | ok us S' =>
    refine ⟨y, m, ρ, S, q, ?_⟩
    rw [q1]
    intro m1 H1 E1 R1 vs rvs
    have p1 := q.ext E1 R1
    simp only [callN, q1, O.bind] at h
    refine ⟨by rw [← RUs.length rvs, argsM_len q1]; exact Nat.eq_of_beq_eq_true hn, ?_⟩
    split at h
    · rename_i ds hds
      refine ⟨y ++ m1, ds, p1.trkN, p1.tab, RUs.pure rvs hds, ?_⟩
      split
      · rename_i c hd
        rw [hd] at h
        intro H' a o E2 ho rc
        obtain ⟨nw, e2, f2⟩ := E2.pre
        have hn1 : ¬ Nt H1 a := f2 a (by rw [List.nil_append] at e2; rw [← e2]; simp)
        have E3 : Ext (gOf X T) m1 H1 (m1 ++ [a]) H' := E2.of_new hn1
        refine h (m1 ++ [a]) H' (E1.trans E3) ?_ _ (.c (by rw [← R1.len]; simp))
        have nm : a ∉ m1 := fun z => hn1 (R1.nt z)
        refine ⟨by simp [R1.len], List.nodup_append.mpr ⟨R1.nd, by simp, fun b hb c' hc' => ?_⟩, fun b hb => List.mem_append_right _ hb, fun i b c' g1 g2 => ?_⟩
        · have : c' = a := by simpa using hc'
          subst this
          exact fun z => nm (z ▸ hb)
        · by_cases hi : i < m1.length
          · rw [List.getElem?_append_left hi] at g1
            rw [List.getElem?_append_left (by rw [← R1.len]; exact hi)] at g2
            obtain ⟨o', q3, q4⟩ := R1.at' i b c' g1 g2
            exact ⟨o', E2.keep _ _ q3 (fun z => by cases z) q4.notbl, q4.ext E3⟩
          · have e4 : i = m1.length := by
              have := (List.getElem?_eq_some_iff.mp g1).1
              simp at this
              omega
            subst e4
            rw [List.getElem?_append_right (Nat.le_refl _), Nat.sub_self] at g1
            rw [R1.len, List.getElem?_append_right (Nat.le_refl _), Nat.sub_self] at g2
            have e5 : a = b := Option.some.inj g1
            have e6 : c = c' := Option.some.inj g2
            subst e5 e6
            exact ⟨o, ho, by rw [← List.append_assoc]; exact rc⟩
      · rename_i ee hd
        rw [hd] at h
        exact fun H' cls d E2 rx => h m1 H' cls d (E1.trans E2.of_nil) (R1.stay0 E2) rx
      · rename_i hd
        rw [hd] at h
        exact h
    · exact h.elim
end

/-! ### a body's mirror gives the promise -/
def env0 (n : Nat) (us : List U) : Env := us.map some ++ List.replicate (n - us.length) none
def frzC (S : Sto) (i : Nat) : Option D := match S[i]? with
  | some (.lst xs) => some (.lst xs)
  | some (.dic t ks vs) => some (.dic t ks vs)
  | _ => none
def frzW (S : Sto) : List (D ⊕ Nat) → Option (List D)
  | [] => some []
  | .inl d :: us => match frzW S us with
    | some ds => some (d :: ds)
    | none => none
  | .inr i :: us => match frzC S i, frzW S us with
    | some d, some ds => some (d :: ds)
    | _, _ => none
def frz (S : Sto) : U → Option D
  | .d x => some x
  | .c i => match S[i]? with
    | some (.lst xs) => some (.lst xs)
    | some (.dic t ks vs) => some (.dic t ks vs)
    | _ => none
  | .t us => match frzW S us with
    | some ds => some (.tup ds)
    | none => none
def run0 (n : Nat) (f : MS) (ds : List D) : R := match f (env0 n (ds.map .d)) [] with
  | .rt u S => match frz S u with
    | some d => .ok d
    | none => .un
  | .nx _ _ => .ok .non
  | .ex e _ _ => .ex e
  | _ => .un
def ins1 (p : Nat) (ds : List D) : List U := (ds.take p).map .d ++ .c 0 :: (ds.drop p).map .d
def run1 (n p : Nat) (f : MS) (ds : List D) (c : Cell) : R1 := match f (env0 n (ins1 p ds)) [c] with
  | .rt (.d d) (c' :: _) => .ok d c'
  | .rt (.c (i + 1)) (c' :: S) => match frz S (.c i) with
    | some d => .ok d c'
    | none => .un
  | .nx _ (c' :: _) => .ok .non c'
  | .ex e _ (c' :: _) => .ex e c'
  | _ => .un
def runN (n : Nat) (f : MS) (ds : List D) : RNw := match f (env0 n (ds.map .d)) [] with
  | .rt (.c i) S => match S[i]? with
    | some c => .ok c
    | none => .un
  | .ex e _ _ => .ex e
  | _ => .un
section
variable {G : Gc} {e m : List Addr} {H : Hp}
theorem RE.nones : ∀ (n : Nat), RE G e m H (List.replicate n none) (List.replicate n none)
  | 0 => .nil
  | n + 1 => by rw [List.replicate_succ, List.replicate_succ]; exact .em (RE.nones n)
theorem RE.of : ∀ {us : List U} {vs : List V} (n : Nat), RUs G e m H us vs → RE G e m H (us.map some ++ List.replicate n none) (vs.map some ++ List.replicate n none)
  | _, _, n, .nil => RE.nones n
  | _, _, n, .cons r t => .cns r (RE.of n t)
theorem RVs.us : ∀ {ds : List D} {vs : List V}, RVs G e H ds vs → RUs G e m H (ds.map .d) vs
  | _, _, .nil => .nil
  | _, _, .cons r t => .cons (.d r) (RVs.us t)
theorem RUs.app : ∀ {us : List U} {vs : List V} {us' : List U} {vs' : List V}, RUs G e m H us vs → RUs G e m H us' vs' → RUs G e m H (us ++ us') (vs ++ vs')
  | _, _, _, _, .nil, r => r
  | _, _, _, _, .cons r t, q => .cons r (RUs.app t q)
theorem frzC_rv {x : List Addr} {S : Sto} {i : Nat} {a : Addr} {d : D} (s : RS G (x ++ m) m H S) (hm : ∀ a ∈ m, a ∉ x) (ha : m[i]? = some a) (h : frzC S i = some d) : RV G x H d (.ref a) := by
  have kp : Keep G (x ++ m) H x H := keep_sub fun a ha => List.mem_append_left _ ha
  have na : a ∉ x := hm a (List.mem_of_getElem? ha)
  unfold frzC at h
  split at h
  · rename_i xs hs
    cases h
    obtain ⟨o, q1, q2⟩ := s.at' i a _ ha hs
    cases q2 with
    | lst q => exact .lst q1 na (q.keep kp)
  · rename_i t ks vs hs
    cases h
    obtain ⟨o, q1, q2⟩ := s.at' i a _ ha hs
    cases q2 with
    | dic q q3 => exact .dic q1 na q (q3.keep kp)
  · cases h
theorem frzW_rv {x : List Addr} {S : Sto} (s : RS G (x ++ m) m H S) (hm : ∀ a ∈ m, a ∉ x) : ∀ {us : List (D ⊕ Nat)} {vs : List V} {ds : List D}, RW G (x ++ m) m H us vs → frzW S us = some ds → RVs G x H ds vs
  | _, _, _, .nil, h => by simp only [frzW, Option.some.injEq] at h; subst h; exact .nil
  | _, _, _, .d r t, h => by
    unfold frzW at h
    split at h
    · rename_i ds h1
      cases h
      exact .cons (r.keep (keep_sub fun a ha => List.mem_append_left _ ha)) (frzW_rv s hm t h1)
    · cases h
  | _, _, _, .c ha t, h => by
    unfold frzW at h
    split at h
    · rename_i d ds h1 h2
      cases h
      exact .cons (frzC_rv s hm ha h1) (frzW_rv s hm t h2)
    · cases h
theorem frz_rv {x : List Addr} {S : Sto} {u : U} {v : V} {d : D} (s : RS G (x ++ m) m H S) (hm : ∀ a ∈ m, a ∉ x) (r : RU G (x ++ m) m H u v) (h : frz S u = some d) : RV G x H d v := by
  have kp : Keep G (x ++ m) H x H := keep_sub fun a ha => List.mem_append_left _ ha
  cases r with
  | d r => cases h; exact r.keep kp
  | @c i a ha =>
    unfold frz at h
    split at h
    · rename_i y hy; cases hy
    · rename_i j hy
      cases hy
      have na : a ∉ x := hm a (List.mem_of_getElem? ha)
      split at h
      · rename_i xs hs
        cases h
        obtain ⟨o, q1, q2⟩ := s.at' i a _ ha hs
        cases q2 with
        | lst q => exact .lst q1 na (q.keep kp)
      · rename_i t ks vs hs
        cases h
        obtain ⟨o, q1, q2⟩ := s.at' i a _ ha hs
        cases q2 with
        | dic q q3 => exact .dic q1 na q (q3.keep kp)
      · cases h
    · rename_i us hy; cases hy
  | t hq r =>
    unfold frz at h
    dsimp only at h
    split at h
    · rename_i ds h1
      cases h
      exact .tup (kp.tup _ _ hq) (frzW_rv s hm r h1)
    · cases h
theorem RX.sub {x : List Addr} {ex : Exn} {cls : Value} {d : Option Addr} (r : RX G (x ++ m) H ex cls d) : RX G x H ex cls d := by
  obtain ⟨C, h1, h2, h3⟩ := r
  refine ⟨C, h1, h2, ?_⟩
  revert h3
  cases ex.fs with
  | none => exact id
  | some fs => exact fun ⟨a, gs, q1, q2, q3⟩ => ⟨a, gs, q1, q2, q3.keep (keep_sub fun a ha => List.mem_append_left _ ha)⟩
end
section
variable {P : Program} {w : World} {K : PySem.W.Frag} {mg : Str → Option Value} {base : Heap} {T : List (Addr × Str)} {x qual : Str} {st : Stmt} {f : Addr} {fd : FuncData} {N ps : List Str} {k : Nat} {b : MS}
/-- the context of a body -/
abbrev bodyX (P : Program) (w : World) (K : PySem.W.Frag) (mg : Str → Option Value) (base : Heap) (N : List Str) (qual : Str) (st : Stmt) (f : Addr) (cdv : Value) (A : Around) (outer : List PySem.Env) (s : Shared) (H : Hp) (E : XK) : Cx :=
  cxOf (L2.CX P w) P w K mg base N qual (defScope st) f cdv A outer s H E
abbrev Der (P : Program) (w : World) (K : PySem.W.Frag) (mg : Str → Option Value) (base : Heap) (T : List (Addr × Str)) (N : List Str) (qual : Str) (st : Stmt) (f : Addr) (k : Nat) (b : MS) : Prop :=
  ∀ (cdv : Value) (A : Around) (outer : List PySem.Env) (s : Shared) (H : Hp) (E : XK), Room k (bodyX P w K mg base N qual st f cdv A outer s H E).A → (bodyX P w K mg base N qual st f cdv A outer s H E).A.units + 65 < cLine →
    Takes (bodyX P w K mg base N qual st f cdv A outer s H E) (fun cls d _ H => E cls d H) → PassesOwn (model (bodyX P w K mg base N qual st f cdv A outer s H E).prog (bodyX P w K mg base N qual st f cdv A outer s H E).w) (bodyX P w K mg base N qual st f cdv A outer s H E).A (bodyX P w K mg base N qual st f cdv A outer s H E).env (bodyX P w K mg base N qual st f cdv A outer s H E).xe →
    PSs (bodyX P w K mg base N qual st f cdv A outer s H E) (defBody st) (tS (gOf (bodyX P w K mg base N qual st f cdv A outer s H E) T) (fun cls d _ H => E cls d H) b)

/-- what a body's derivation gives, whatever is promised -/
abbrev OBt (P : Program) (w : World) (K : PySem.W.Frag) (mg : Str → Option Value) (base : Heap) (T : List (Addr × Str)) (N : List Str) (f : Addr) (fd : FuncData) (k : Nat) (ps : List Str) (b : MS) : Prop :=
  ∀ sp : Sp, (∀ vs H Q E, sp vs H Q E → vs.length = ps.length) → (∀ vs H Q E, sp vs H Q E → ∃ (x m : List Addr) (ρ : Env) (S' : Sto), Rp ⟨P, w, K, mg, T⟩ x m H ρ S' (L2.start N vs) ∧ PostS ⟨P, w, K, mg, T⟩ (fun cls d _ H => E cls d H) x m H (b ρ S') { nx := fun _ H' => Q .non H', rt := Q }) →
    FnOk P w K mg base (L2.CX P w) (k + 1) f fd ps sp
theorem ok_body (F : Fun K x qual st f fd) (S : FnScope N ps (defScope st)) {sp : Sp} (hl : ∀ vs H Q E, sp vs H Q E → vs.length = ps.length) (D' : Der P w K mg base T N qual st f k b)
    (h : ∀ vs H Q E, sp vs H Q E → ∃ (x m : List Addr) (ρ : Env) (S' : Sto), Rp ⟨P, w, K, mg, T⟩ x m H ρ S' (L2.start N vs) ∧ PostS ⟨P, w, K, mg, T⟩ (fun cls d _ H => E cls d H) x m H (b ρ S') { nx := fun _ H' => Q .non H', rt := Q }) :
    FnOk P w K mg base (L2.CX P w) (k + 1) f fd ps sp := by
  refine F.okX S hl fun cdv A outer s H vs Q E hr hsp => ?_
  exact ⟨_, D' cdv A outer s H E hr (Nat.lt_of_le_of_lt (Nat.add_le_add_left (show 65 ≤ 16 * k + 200 by omega) _) (by rw [← Nat.add_assoc]; exact hr.un)) (takes_of rfl rfl rfl rfl) (passes_of rfl), h vs H Q E hsp⟩
theorem ok0' {n : Nat} {Fn : List D → R} (OB : OBt P w K mg base T N f fd k ps b) (hn : n = ps.length) (h : ∀ ds, Fn ds ≠ .un → run0 N.length b ds = Fn ds) :
    FnOk P w K mg base (L2.CX P w) (k + 1) f fd ps (sp0 ⟨P, w, K, mg, T⟩ n Fn) := by
  refine OB _ (fun vs H Q E h => h.1.trans hn) fun vs H Q E ⟨hl, y, ds, tr, tb, r, pr⟩ => ?_
  have hds : ds.length = vs.length := r.len
  refine ⟨y, [], env0 N.length (ds.map .d), [], ⟨?_, ⟨rfl, List.nodup_nil, fun _ z => (by cases z), fun i a c h => (by simp at h)⟩, tr, tb⟩, ?_⟩
  · unfold env0 L2.start
    rw [List.length_map, hds, List.append_nil]
    exact RE.of _ (RVs.us r)
  · have hne : Fn ds ≠ .un := fun z => by rw [z] at pr; exact pr
    have hrun := h ds hne
    unfold run0 at hrun
    rw [← hrun] at pr
    cases q : b (env0 N.length (ds.map .d)) [] with
    | nx ρ' S' => rw [q] at pr; exact fun m' H' σ' E1 _ => pr H' .non E1.drop .non
    | rt u S' =>
      rw [q] at pr
      intro m' H' v E1 rs ru
      dsimp only at pr
      split at pr
      · rename_i d hd
        refine pr H' v E1.drop (frz_rv rs (fun a ha z => ?_) ru hd)
        obtain ⟨nw, e1, f1⟩ := E1.pre
        rw [List.nil_append] at e1
        exact f1 a (by rw [← e1]; exact ha) (tr a z)
      · exact pr.elim
    | bk ρ' S' => rw [q] at pr; exact pr.elim
    | ct ρ' S' => rw [q] at pr; exact pr.elim
    | ex e ρ' S' => rw [q] at pr; exact fun m' H' σ' cls d E1 _ rx => pr H' cls d E1.drop rx.sub
    | un => rw [q] at pr; exact pr.elim
theorem ok0 {n : Nat} {Fn : List D → R} (F : Fun K x qual st f fd) (S : FnScope N ps (defScope st)) (D' : Der P w K mg base T N qual st f k b) (hn : n = ps.length) (h : ∀ ds, Fn ds ≠ .un → run0 N.length b ds = Fn ds) :
    FnOk P w K mg base (L2.CX P w) (k + 1) f fd ps (sp0 ⟨P, w, K, mg, T⟩ n Fn) := ok0' (fun sp hl h => ok_body F S hl D' h) hn h
theorem okN' {n : Nat} {Fn : List D → RNw} (OB : OBt P w K mg base T N f fd k ps b) (hn : n = ps.length) (h : ∀ ds, Fn ds ≠ .un → runN N.length b ds = Fn ds) :
    FnOk P w K mg base (L2.CX P w) (k + 1) f fd ps (spN ⟨P, w, K, mg, T⟩ n Fn) := by
  refine OB _ (fun vs H Q E h => h.1.trans hn) fun vs H Q E ⟨hl, y, ds, tr, tb, r, pr⟩ => ?_
  have hds : ds.length = vs.length := r.len
  refine ⟨y, [], env0 N.length (ds.map .d), [], ⟨?_, ⟨rfl, List.nodup_nil, fun _ z => (by cases z), fun i a c h => (by simp at h)⟩, tr, tb⟩, ?_⟩
  · unfold env0 L2.start
    rw [List.length_map, hds, List.append_nil]
    exact RE.of _ (RVs.us r)
  · have hne : Fn ds ≠ .un := fun z => by rw [z] at pr; exact pr
    have hrun := h ds hne
    unfold runN at hrun
    rw [← hrun] at pr
    cases q : b (env0 N.length (ds.map .d)) [] with
    | nx ρ' S' => rw [q] at pr; exact pr.elim
    | rt u S' =>
      rw [q] at pr
      intro m' H' v E1 rs ru
      cases ru with
      | d r => exact pr.elim
      | t _ _ => exact pr.elim
      | @c i a ha =>
        cases hS : S'[i]? with
        | none => simp only [hS] at pr
        | some c =>
          simp only [hS] at pr
          obtain ⟨o, o1, o2⟩ := rs.at' i a _ ha hS
          obtain ⟨nw, e1, f1⟩ := E1.pre
          rw [List.nil_append] at e1
          have na : ¬ Nt H a := f1 a (by rw [← e1]; exact List.mem_of_getElem? ha)
          refine pr H' a o ⟨fun b u g _ t => E1.keep b u g (fun z => by cases z) t, E1.tups, E1.frzs, E1.owns, E1.live, ⟨[a], rfl, fun b hb => ?_⟩, E1.tab⟩ o1 (o2.keep (keep_sub fun c hc => ?_) fun _ _ z => z)
          · have e2 : b = a := by simpa using hb
            rw [e2]; exact na
          · rcases List.mem_append.mp hc with z | z
            · exact List.mem_append_left _ z
            · have e2 : c = a := by simpa using z
              rw [e2]; exact List.mem_append_right _ (List.mem_of_getElem? ha)
    | bk ρ' S' => rw [q] at pr; exact pr.elim
    | ct ρ' S' => rw [q] at pr; exact pr.elim
    | ex e ρ' S' => rw [q] at pr; exact fun m' H' σ' cls d E1 _ rx => pr H' cls d E1.drop rx.sub
    | un => rw [q] at pr; exact pr.elim
theorem okN {n : Nat} {Fn : List D → RNw} (F : Fun K x qual st f fd) (S : FnScope N ps (defScope st)) (D' : Der P w K mg base T N qual st f k b) (hn : n = ps.length) (h : ∀ ds, Fn ds ≠ .un → runN N.length b ds = Fn ds) :
    FnOk P w K mg base (L2.CX P w) (k + 1) f fd ps (spN ⟨P, w, K, mg, T⟩ n Fn) := okN' (fun sp hl h => ok_body F S hl D' h) hn h
theorem ins_rus {G : Gc} {e m : List Addr} {H : Hp} {a : Addr} (hm : m[0]? = some a) : ∀ {p : Nat} {ds : List D} {vs : List V}, RVs G e H ds (vs.eraseIdx p) → vs[p]? = some (.ref a) → RUs G e m H (ins1 p ds) vs
  | 0, ds, v :: vs, r, h => by
    simp only [List.getElem?_cons_zero, Option.some.injEq] at h
    subst h
    rw [List.eraseIdx_cons_zero] at r
    simp only [ins1, List.take_zero, List.map_nil, List.nil_append, List.drop_zero]
    exact .cons (.c hm) (RVs.us r)
  | p + 1, ds, v :: vs, r, h => by
    rw [List.eraseIdx_cons_succ] at r
    cases r with
    | @cons d _ ds' _ r1 r2 =>
      have q := ins_rus (p := p) hm r2 (by simpa using h)
      show RUs G e m H (ins1 (p + 1) (d :: ds')) (v :: vs)
      have e1 : ins1 (p + 1) (d :: ds') = .d d :: ins1 p ds' := by simp [ins1]
      rw [e1]
      exact .cons (.d r1) q
  | _, _, [], _, h => by simp at h
theorem ins1_len {p : Nat} {ds : List D} (h : p ≤ ds.length) : (ins1 p ds).length = ds.length + 1 := by
  simp [ins1]; omega
theorem ok1' {n p : Nat} {Fn : List D → Cell → R1} (OB : OBt P w K mg base T N f fd k ps b) (hn : n = ps.length) (h : ∀ ds c, Fn ds c ≠ .un → run1 N.length p b ds c = Fn ds c) :
    FnOk P w K mg base (L2.CX P w) (k + 1) f fd ps (sp1 ⟨P, w, K, mg, T⟩ n p Fn) := by
  refine OB _ (fun vs H Q E h => h.1.trans hn) fun vs H Q E ⟨hl, y, a, c, o, ds, tr, tb, hay, hp, ha, rc, r, pr⟩ => ?_
  have kp : Keep ⟨P, w, K, mg, T⟩ y H (y ++ [a]) H := keep_sub fun b hb => by
    rcases List.mem_append.mp hb with z | z
    · exact z
    · have e1 : b = a := by simpa using z
      rw [e1]; exact hay
  have hus : RUs ⟨P, w, K, mg, T⟩ (y ++ [a]) [a] H (ins1 p ds) vs := ins_rus rfl (r.keep kp) hp
  refine ⟨y, [a], env0 N.length (ins1 p ds), [c], ⟨?_, ⟨rfl, by simp, fun b hb => List.mem_append_right _ hb, fun i b c' h1 h2 => ?_⟩, tr, tb⟩, ?_⟩
  · unfold env0 L2.start
    rw [RUs.length hus]
    exact RE.of _ hus
  · cases i with
    | zero =>
      simp at h1 h2
      subst h1 h2
      exact ⟨o, ha, rc.keep kp fun _ _ z => z⟩
    | succ i => simp at h1
  · have hne : Fn ds c ≠ .un := fun z => by rw [z] at pr; exact pr
    have hrun := h ds c hne
    unfold run1 at hrun
    rw [← hrun] at pr
    -- the first cell is still the caller's
    have first : ∀ {m' : List Addr} {H' : Hp} {c' : Cell} {S' : Sto}, Ext ⟨P, w, K, mg, T⟩ [a] H m' H' → RS ⟨P, w, K, mg, T⟩ (y ++ m') m' H' (c' :: S') → ∃ o', H' a = some o' ∧ RC ⟨P, w, K, mg, T⟩ y H' a c' o' := fun {m' H' c' S'} E1 rs => by
      obtain ⟨nw, e1, f1⟩ := E1.pre
      obtain ⟨o', q1, q2⟩ := rs.at' 0 a c' (by rw [e1]; rfl) rfl
      exact ⟨o', q1, q2.keep (keep_sub fun b hb => List.mem_append_left _ hb) fun _ _ z => z⟩
    cases q : b (env0 N.length (ins1 p ds)) [c] with
    | nx ρ' S' =>
      rw [q] at pr
      intro m' H' σ' E1 rp
      cases S' with
      | nil => exact pr.elim
      | cons c' S' =>
        obtain ⟨o', q1, q2⟩ := first E1 rp.sto
        exact pr H' .non o' E1.drop q1 q2 .non
    | rt u S' =>
      rw [q] at pr
      intro m' H' v E1 rs ru
      cases S' with
      | nil =>
        cases u with
        | d x => exact pr.elim
        | t us => exact pr.elim
        | c i => cases i <;> exact pr.elim
      | cons c' S' =>
        obtain ⟨o', q1, q2⟩ := first E1 rs
        obtain ⟨nw, e1, f1⟩ := E1.pre
        cases u with
        | d x =>
          cases ru with
          | d r => exact pr H' v o' E1.drop q1 q2 (r.keep (keep_sub fun b hb => List.mem_append_left _ hb))
        | t us => exact pr.elim
        | c i =>
          cases i with
          | zero => exact pr.elim
          | succ i =>
            cases hf : frz S' (.c i) with
            | none => simp only [hf] at pr
            | some d =>
              simp only [hf] at pr
              refine pr H' v o' E1.drop q1 q2 ?_
              cases ru with
              | @c _ b hb =>
                have hb' : b ∈ nw := by
                  rw [e1] at hb
                  exact List.mem_of_getElem? (by simpa using hb)
                have nb : b ∉ y := fun z => f1 b hb' (tr b z)
                unfold frz at hf
                dsimp only at hf
                split at hf
                · rename_i xs hs
                  cases hf
                  obtain ⟨o2, q3, q4⟩ := rs.at' (i + 1) b _ hb (by simpa using hs)
                  cases q4 with
                  | lst q4 => exact .lst q3 nb (q4.keep (keep_sub fun b hb => List.mem_append_left _ hb))
                · rename_i t ks vs' hs
                  cases hf
                  obtain ⟨o2, q3, q4⟩ := rs.at' (i + 1) b _ hb (by simpa using hs)
                  cases q4 with
                  | dic q4 q5 => exact .dic q3 nb q4 (q5.keep (keep_sub fun b hb => List.mem_append_left _ hb))
                · cases hf
    | bk ρ' S' => rw [q] at pr; exact pr.elim
    | ct ρ' S' => rw [q] at pr; exact pr.elim
    | ex e ρ' S' =>
      rw [q] at pr
      intro m' H' σ' cls d E1 rp rx
      cases S' with
      | nil => exact pr.elim
      | cons c' S' =>
        obtain ⟨o', q1, q2⟩ := first E1 rp.sto
        exact pr H' o' cls d E1.drop q1 q2 rx.sub
    | un => rw [q] at pr; exact pr.elim
theorem ok1 {n p : Nat} {Fn : List D → Cell → R1} (F : Fun K x qual st f fd) (S : FnScope N ps (defScope st)) (D' : Der P w K mg base T N qual st f k b) (hn : n = ps.length) (h : ∀ ds c, Fn ds c ≠ .un → run1 N.length p b ds c = Fn ds c) :
    FnOk P w K mg base (L2.CX P w) (k + 1) f fd ps (sp1 ⟨P, w, K, mg, T⟩ n p Fn) := ok1' (fun sp hl h => ok_body F S hl D' h) hn h
end
end Mir

/-! Mir7: statements. -/
namespace Mir
open PySem PySem.Spec PyProof.Rows L2

abbrev MG := U → Env → Sto → Option (Env × Sto)
def nxtM : MS := fun ρ S => .nx ρ S
def seqM (f g : MS) : MS := fun ρ S => match f ρ S with
  | .nx ρ' S' => g ρ' S'
  | o => o
def toS (ρ : Env) (o : O U) (k : U → Sto → SO) : SO := match o with
  | .ok u S' => k u S'
  | .ex e S' => .ex e ρ S'
  | .un => .un
def retM (f : ME) : MS := fun ρ S => toS ρ (f ρ S) fun u S' => .rt u S'
def retNM : MS := fun _ S => .rt (.d .non) S
def drpM (f : ME) : MS := fun ρ S => toS ρ (f ρ S) fun _ S' => .nx ρ S'
def asgM (f : ME) (g : MG) : MS := fun ρ S => toS ρ (f ρ S) fun u S' => match g u ρ S' with
  | some q => .nx q.1 q.2
  | none => .un
def ifM (t : MT) (f g : MS) : MS := fun ρ S => match t ρ S with
  | .ok b S' => if b = true then f ρ S' else g ρ S'
  | .ex e S' => .ex e ρ S'
  | .un => .un
def brkM : MS := fun ρ S => .bk ρ S
def cntM : MS := fun ρ S => .ct ρ S
def raiM (e : Exn) : MS := fun ρ S => .ex e ρ S
/-- targets -/
def namG (i : Nat) : MG := fun u ρ S => some (ρ.set i (some u), S)
def allG : List MG → List D → Env → Sto → Option (Env × Sto)
  | [], [], ρ, S => some (ρ, S)
  | g :: gs, d :: ds, ρ, S => match g (.d d) ρ S with
    | some q => allG gs ds q.1 q.2
    | none => none
  | _, _, _, _ => none
def tupG (gs : List MG) : MG := fun u ρ S => match u with
  | .d (.tup xs) => allG gs xs ρ S
  | _ => none
def lsuG (gs : List MG) : MG := fun u ρ S => match rd S u with
  | some (.lst xs) => allG gs xs ρ S
  | _ => none
/-- two or three names at once -/
def parM (is : List Nat) (fs : List ME) : MS := fun ρ S => match argsM fs ρ S with
  | .ok us S' => if us.length = is.length then .nx ((is.zip us).foldl (fun ρ p => ρ.set p.1 (some p.2)) ρ) S' else .un
  | .ex e S' => .ex e ρ S'
  | .un => .un

section
variable {G : Gc} {W : WX} {x m : List Addr} {H : Hp} {σ : St} {ρ : Env}
theorem Post.toS {o : O U} {k : U → Sto → SO} {Dn : Ends} (h : PostS G W x m H (toS ρ o k) Dn) {S : Sto} (p : Rp G x m H ρ S σ) : Post G W x m σ H o fun u S1 m1 H1 => Ext G m H m1 H1 ∧ RS G (x ++ m1) m1 H1 S1 ∧ PostS G W x m1 H1 (k u S1) Dn := by
  cases o with
  | ok u S' => exact fun m' H' E R => ⟨E, R, PostS.shift E h⟩
  | ex e S' => exact fun m' H' cls d E R rx => h m' H' σ cls d E (p.ext E R) rx
  | un => exact h
end
def tG (G : Gc) (W : WX) (g : MG) : TG := fun v σ H Q => ∃ x m ρ S u, Rp G x m H ρ S σ ∧ RU G (x ++ m) m H u v ∧ match g u ρ S with
  | some q => ∀ m' H' σ', Ext G m H m' H' → Rp G x m' H' q.1 q.2 σ' → Q σ' H'
  | none => False
section
variable {X : Cx} {T : List (Addr × Str)} {W : WX} {st : Stmt} {rest a b : List Stmt} {e : Expr} {f g : MS} {fe : ME} {gt : MG} {pos : Pos}
theorem s_nil : PSs X [] (tS (gOf X T) W nxtM) := pss_mono pss_nil fun Dn σ H h => by
  obtain ⟨x, m, ρ, S, p, h⟩ := h
  exact h m H σ Ext.refl p
theorem s_cons (h1 : PS X st (tS (gOf X T) W f)) (h2 : PSs X rest (tS (gOf X T) W g)) : PSs X (st :: rest) (tS (gOf X T) W (seqM f g)) := pss_mono (pss_cons h1 h2) fun Dn σ H h => by
  obtain ⟨x, m, ρ, S, p, h⟩ := h
  refine ⟨x, m, ρ, S, p, ?_⟩
  unfold seqM at h
  cases q : f ρ S with
  | nx ρ' S' =>
    rw [q] at h
    exact fun m' H' σ' E1 p1 => ⟨x, m', ρ', S', p1, PostS.shift E1 h⟩
  | rt u S' => rw [q] at h; exact h
  | bk ρ' S' => rw [q] at h; exact h
  | ct ρ' S' => rw [q] at h; exact h
  | ex e ρ' S' => rw [q] at h; exact h
  | un => rw [q] at h; exact h
theorem s_one (h1 : PS X st (tS (gOf X T) W f)) : PSs X [st] (tS (gOf X T) W f) := pss_one h1
theorem s_pass : PS X (.Pass pos) (tS (gOf X T) W nxtM) := ps_mono ps_pass fun Dn σ H h => by
  obtain ⟨x, m, ρ, S, p, h⟩ := h
  exact h m H σ Ext.refl p
theorem s_doc {y j p2} : PS X (.Expr (.Constant (.str y) j pos) p2) (tS (gOf X T) W nxtM) := ps_mono ps_doc fun Dn σ H h => by
  obtain ⟨x, m, ρ, S, p, h⟩ := h
  exact h m H σ Ext.refl p
theorem s_brk : PS X (.Break pos) (tS (gOf X T) W brkM) := ps_mono ps_break fun Dn σ H h => by
  obtain ⟨x, m, ρ, S, p, h⟩ := h
  exact h m H σ Ext.refl p
theorem s_cnt : PS X (.Continue pos) (tS (gOf X T) W cntM) := ps_mono ps_continue fun Dn σ H h => by
  obtain ⟨x, m, ρ, S, p, h⟩ := h
  exact h m H σ Ext.refl p
theorem s_ret (he : PE X e (tE (gOf X T) W fe)) : PS X (.Return (some e) pos) (tS (gOf X T) W (retM fe)) := ps_mono (ps_ret he) fun Dn σ H h => by
  obtain ⟨x, m, ρ, S, p, h⟩ := h
  exact ⟨x, m, ρ, S, p, (Post.toS h p).mono fun u S1 m1 H1 E1 R1 ⟨_, _, h1⟩ v rv => h1 m1 H1 v Ext.refl R1 rv⟩
theorem s_retN : PS X (.Return none pos) (tS (gOf X T) W retNM) := ps_mono ps_retN fun Dn σ H h => by
  obtain ⟨x, m, ρ, S, p, h⟩ := h
  exact h m H .non Ext.refl p.sto (.d .non)
theorem s_expr (he : PE X e (tE (gOf X T) W fe)) (hs : swapsWith e none pos.line X.env = pure false := by rfl) : PS X (.Expr e pos) (tS (gOf X T) W (drpM fe)) := ps_mono (ps_expr he hs) fun Dn σ H h => by
  obtain ⟨x, m, ρ, S, p, h⟩ := h
  exact ⟨x, m, ρ, S, p, (Post.toS h p).mono fun u S1 m1 H1 E1 R1 ⟨_, _, h1⟩ v rv => h1 m1 H1 σ Ext.refl (p.ext E1 R1)⟩
theorem s_set (i : Nat) {y : Str} {p2 : Pos} (hN : X.N.Nodup) (he : PE X e (tE (gOf X T) W fe)) (hi : X.N[i]? = some y := by rfl) (hx : Loc X.env.scope y := by first | exact Or.inl rfl | exact Or.inr rfl) (hs : swapsWith e (some (.Name y p2)) pos.line X.env = pure false := by rfl) (hf : X.fn y = true ∨ X.env.scope.names.lookup y = some .local := by first | exact .inl rfl | exact .inr rfl) :
    PS X (.Assign [.Name y p2] e pos) (tS (gOf X T) W (asgM fe (namG i))) := ps_mono (ps_set hN hi hx he hs hf) fun Dn σ H h => by
  obtain ⟨x, m, ρ, S, p, h⟩ := h
  refine ⟨x, m, ρ, S, p, (Post.toS h p).mono fun u S1 m1 H1 E1 R1 ⟨_, _, h1⟩ v rv => ?_⟩
  have p1 := p.ext E1 R1
  exact h1 m1 H1 _ Ext.refl ⟨p1.env.set rv i, p1.sto, p1.ex, p1.tab⟩
theorem s_asg {tg : Expr} (he : PE X e (tE (gOf X T) W fe)) (hg : PG X tg (tG (gOf X T) W gt)) (hs : swapsWithSole [tg] e pos.line X.env = pure false := by rfl) (hw : swappedStores [tg] e X.env = pure none := by rfl)
    (h1 : (assignEach [tg] X.env).map (·.2) = [assign tg X.env] := by rfl) : PS X (.Assign [tg] e pos) (tS (gOf X T) W (asgM fe gt)) := ps_mono (ps_asg he hg hs hw h1) fun Dn σ H h => by
  obtain ⟨x, m, ρ, S, p, h⟩ := h
  cases q : fe ρ S with
  | un => simp only [asgM, q, toS] at h; exact h.elim
  | ex ee S' =>
    refine ⟨x, m, ρ, S, p, ?_⟩
    simp only [asgM, q, toS] at h ⊢
    exact fun m' H' cls d E R rx => h m' H' σ cls d E (p.ext E R) rx
  | ok u S' =>
    refine ⟨x, m, ρ, S, p, ?_⟩
    rw [q]
    intro m1 H1 E1 R1 v rv
    have p1 := p.ext E1 R1
    simp only [asgM, q, toS] at h
    refine ⟨x, m1, ρ, S', u, p1, rv, ?_⟩
    revert h
    cases gt u ρ S' with
    | some q => exact fun h m' H' σ' E2 p2 => h m' H' σ' (E1.trans E2) p2
    | none => exact fun h => h
theorem s_if {c : Expr} {tc : MT} (hc : PT X c (tT (gOf X T) W tc)) (ha : PSs X a (tS (gOf X T) W f)) (hb : PSs X b (tS (gOf X T) W g)) : PS X (.If c a b pos) (tS (gOf X T) W (ifM tc f g)) := ps_mono (ps_if hc ha hb) fun Dn σ H h => by
  obtain ⟨x, m, ρ, S, p, h⟩ := h
  refine ⟨x, m, ρ, S, p, ?_⟩
  unfold ifM at h
  cases q : tc ρ S with
  | un => rw [q] at h; exact h
  | ex ee S' => rw [q] at h; exact fun m' H' cls d E R rx => h m' H' σ cls d E (p.ext E R) rx
  | ok b S' =>
    rw [q] at h
    intro m1 H1 E1 R1
    cases b with
    | true => exact iteT ⟨x, m1, ρ, S', p.ext E1 R1, PostS.shift E1 (by simpa using h)⟩
    | false => exact iteF ⟨x, m1, ρ, S', p.ext E1 R1, PostS.shift E1 (by simpa using h)⟩
/-! ### targets -/
theorem g_nam (i : Nat) {y : Str} (hN : X.N.Nodup) (hi : X.N[i]? = some y := by rfl) (hx : Loc X.env.scope y := by first | exact Or.inl rfl | exact Or.inr rfl) (hf : X.fn y = true ∨ X.env.scope.names.lookup y = some .local := by first | exact .inl rfl | exact .inr rfl) :
    PG X (.Name y pos) (tG (gOf X T) W (namG i)) := ⟨fun pins s σ H v u Q I r h => (pg_name hN hi hx hf).run pins s σ H v u Q I r (by
  obtain ⟨x, m, ρ, S, u', p, ru, h⟩ := h
  exact h m H _ Ext.refl ⟨p.env.set ru i, p.sto, p.ex, p.tab⟩)⟩
def tGs (G : Gc) (W : WX) (gs : List MG) : TGs := fun vs σ H Q => ∃ x m ρ S ds, Rp G x m H ρ S σ ∧ RVs G (x ++ m) H ds vs ∧ match allG gs ds ρ S with
  | some q => ∀ m' H' σ', Ext G m H m' H' → Rp G x m' H' q.1 q.2 σ' → Q σ' H'
  | none => False
theorem gs_nil : PGs X [] (tGs (gOf X T) W []) := ⟨fun pins s σ H vs us Q I r h => pgs_nil.run pins s σ H vs us Q I r (by
  obtain ⟨x, m, ρ, S, ds, p, rv, h⟩ := h
  cases rv with
  | nil => exact ⟨rfl, h m H σ Ext.refl p⟩
  | cons _ _ => exact h.elim)⟩
theorem gs_cons {es : List Expr} {gs : List MG} (h1 : PG X e (tG (gOf X T) W gt)) (h2 : PGs X es (tGs (gOf X T) W gs)) (hs : (assignEach (e :: es) X.env).map (·.2) = assign e X.env :: (assignEach es X.env).map (·.2) := by rfl) :
    PGs X (e :: es) (tGs (gOf X T) W (gt :: gs)) := ⟨fun pins s σ H vs us Q I r h => (pgs_cons h1 h2 hs).run pins s σ H vs us Q I r (by
  obtain ⟨x, m, ρ, S, ds, p, rv, h⟩ := h
  cases rv with
  | nil => exact h.elim
  | @cons d v ds vs r1 r2 =>
    refine ⟨v, vs, rfl, x, m, ρ, S, .d d, p, .d r1, ?_⟩
    simp only [allG] at h
    cases q : gt (.d d) ρ S with
    | none => rw [q] at h; exact h
    | some q1 =>
      rw [q] at h
      refine fun m' H' σ' E1 p1 => ⟨x, m', q1.1, q1.2, ds, p1, r2.keep E1.kp, ?_⟩
      revert h
      dsimp only
      cases allG gs ds q1.1 q1.2 with
      | some q2 => exact fun h m2 H2 σ2 E2 p2 => h m2 H2 σ2 (E1.trans E2) p2
      | none => exact fun h => h)⟩
theorem allG_len : ∀ {gs : List MG} {ds : List D} {ρ : Env} {S : Sto} {q : Env × Sto}, allG gs ds ρ S = some q → ds.length = gs.length := by
  intro gs
  induction gs with
  | nil => intro ds ρ S r q; cases ds with
    | nil => rfl
    | cons _ _ => simp [allG] at q
  | cons g gs ih => intro ds ρ S r q; cases ds with
    | nil => simp [allG] at q
    | cons d ds =>
      simp only [allG] at q
      split at q
      · simp [ih q]
      · cases q
theorem g_tup {es : List Expr} {k n : Nat} {gs : List MG} (hc : X.calm = true) (h : PGs X es (tGs (gOf X T) W gs)) (hl : gs.length = n := by rfl)
    (hn : (assignEach es X.env).length = n := by rfl) (hst : (assignEach es X.env).findIdx? (·.1) = none := by rfl) : PG X (.Tuple es k pos) (tG (gOf X T) W (tupG gs)) := ⟨fun pins s σ H v u Q I r hw => (pg_tup hc h hn hst).run pins s σ H v u Q I r (by
  obtain ⟨x, m, ρ, S, u', p, ru, hw⟩ := hw
  unfold tupG at hw
  split at hw
  · rename_i q
    split at q
    · rename_i xs
      cases ru with
      | d rr => cases rr with
        | @tup a vs _ h1 h2 =>
          refine ⟨a, vs, rfl, h1, ?_, x, m, ρ, S, xs, p, h2, by rw [q]; exact hw⟩
          rw [← h2.len, ← hl]
          exact allG_len q
    · cases q
  · exact hw.elim)⟩
theorem g_lsu {es : List Expr} {k n : Nat} {gs : List MG} (hc : X.calm = true) (h : PGs X es (tGs (gOf X T) W gs)) (hl : gs.length = n := by rfl)
    (hn : (assignEach es X.env).length = n := by rfl) (hst : (assignEach es X.env).findIdx? (·.1) = none := by rfl) : PG X (.Tuple es k pos) (tG (gOf X T) W (lsuG gs)) := ⟨fun pins s σ H v u Q I r hw => (pg_lst hc h hn hst).run pins s σ H v u Q I r (by
  obtain ⟨x, m, ρ, S, u', p, ru, hw⟩ := hw
  unfold lsuG at hw
  split at hw
  · rename_i q
    split at q
    · rename_i xs hx
      obtain ⟨a, vs, rfl, h1, h2⟩ := (ru.rt p.sto hx).lst'
      exact ⟨a, vs, rfl, .of h1, by rw [← h2.len, ← hl]; exact allG_len q, x, m, ρ, S, xs, p, h2, by rw [q]; exact hw⟩
    · cases q
  · exact hw.elim)⟩
end
end Mir

/-! Mir8: built-in functions. -/
namespace Mir
open PySem PySem.Spec PyProof.Rows L2
def biM (g : List D → Option D) (fs : List ME) : ME := fun ρ S => (argsM fs ρ S).bind fun us S1 => match rds S1 us with
  | some ds => match g ds with
    | some z => .ok (.d z) S1
    | none => .un
  | none => .un
def rC (G : Gc) (g : List D → Option D) : List V → Hp → VK → Prop := fun vs H Q => ∃ ds z e m, g ds = some z ∧ (∀ b ∈ e, ∃ o, H b = some o) ∧ RTs G e H ds vs ∧
  ∀ H' w, Ext G m H m H' → (∀ a ∈ m, H a ≠ none → H' a = H a) → RV G e H' z w → Q w H'
section
variable {X : Cx} {T : List (Addr × Str)} {W : WX} {x : Str} {p pos : Pos} {e : Expr} {es : List Expr} {fs : List ME} {id : String} {g : List D → Option D}
theorem bi_red {σ : St} {H : Hp} {Q : VK} (h : tE (gOf X T) W (biM g fs) σ H Q) : tCB (rC (gOf X T) g) (tA (gOf X T) W (argsM fs)) σ H Q := by
  obtain ⟨y, m, ρ, S, p, h⟩ := h
  refine ⟨y, m, ρ, S, p, (Post.bind h).mono fun us S1 m1 H1 E1 R1 ⟨_, _, h1⟩ vs rvs => ?_⟩
  have p1 := p.ext E1 R1
  split at h1
  · rename_i ds q1
    split at h1
    · rename_i z q3
      exact ⟨ds, z, y ++ m1, m1, q3, p1.trk, RUs.rts R1 rvs q1, fun H' w' E3 hs r => h1 m1 H' E3 (R1.stay E3 fun a ha => hs a ha (by obtain ⟨o, q⟩ := R1.live ha; rw [q]; simp)) w' (.d r)⟩
    · exact h1.elim
  · exact h1.elim
theorem e_bi (hc : CallR X (.builtin id) (rC (gOf X T) g)) (hm : X.mg x = none) (hv : bootBuiltins x = some (.builtin id)) (ha : PA X (e :: es) (tA (gOf X T) W (argsM fs))) (hg : Gl X x := by rfl) (hn : x ≠ "__name__" := by decide) (hdb : (x == ("__debug__" : Str)) = false := by decide)
    (he : starEach (e :: es) X.env = (false, eval e X.env) :: starEach es X.env := by rfl) (hpl : (backTo pos (starEach es X.env)).any (·.1) = false := by rfl) : PE X (.Call (.Name x p) (e :: es) [] pos) (tE (gOf X T) W (biM g fs)) :=
  pe_mono (pe_callB hc hg hm hv ha hn hdb he hpl) fun σ H Q h => bi_red h
theorem e_biT (hc : CallR X (.type id) (rC (gOf X T) g)) (hm : X.mg x = none) (hv : bootBuiltins x = some (.type id)) (ha : PA X (e :: es) (tA (gOf X T) W (argsM fs))) (hg : Gl X x := by rfl) (hn : x ≠ "__name__" := by decide) (hdb : (x == ("__debug__" : Str)) = false := by decide)
    (he : starEach (e :: es) X.env = (false, eval e X.env) :: starEach es X.env := by rfl) (hpl : (backTo pos (starEach es X.env)).any (·.1) = false := by rfl) : PE X (.Call (.Name x p) (e :: es) [] pos) (tE (gOf X T) W (biM g fs)) :=
  pe_mono (pe_callTy hc hg hm hv ha hn hdb he hpl) fun σ H Q h => bi_red h
end

/-! ### isinstance against a built-in type -/
inductive TyE where
  | int | bool | str | tuple | list
  deriving DecidableEq
def TyE.nm : TyE → String
  | .int => "int" | .bool => "bool" | .str => "str" | .tuple => "tuple" | .list => "list"
def isE : TyE → D → Bool
  | .int, .int _ => true
  | .int, .bl _ => true
  | .bool, .bl _ => true
  | .str, .str _ => true
  | .tuple, .tup _ => true
  | .list, .lst _ => true
  | .list, .scr _ => true
  | _, _ => false
def isdic : D → Bool
  | .dic _ _ _ => true
  | _ => false
def isM (t : TyE) (f : ME) : ME := fun ρ S => (f ρ S).bind fun u S1 => match rd S1 u with
  | some d => if isdic d = true then .un else .ok (.d (.bl (isE t d))) S1
  | none => .un
section
variable {G : Gc} {e : List Addr} {H : Hp}
def tyN : D → String
  | .non => "NoneType" | .bl _ => "bool" | .int _ => "int" | .str _ => "str" | .tup _ => "tuple" | .lst _ => "list" | .scr _ => "list" | .dic _ _ _ => "dict"
theorem sqt_ty {K : PySem.W.Frag} {a : Addr} {xs : List V} (h : SqT K H a xs) : TyX K H (.ref a) (.type "tuple") := by
  rcases h with (h | ⟨o, h⟩) | ⟨o, its, n, h1, h2, _⟩
  · exact .base (.tup h)
  · exact .fTuple h
  · exact .kTuple h1 h2
theorem RT.ty {d : D} {v : V} (r : RT G e H d v) (h : isdic d = false) : TyX G.K H v (.type (tyN d)) := by
  cases r with
  | of r => cases r with
    | non => exact .base .non
    | bl b => exact .base (.bl b)
    | int i => exact .base (.int i)
    | str x => exact .base (.str x)
    | tup h1 _ => exact sqt_ty h1
    | lst h1 _ _ => exact .base (.lst h1)
    | scr h1 =>
      rcases h1 with ⟨o, h1⟩ | ⟨o, its, n, h1, h2, _⟩
      · exact .base (.frz h1)
      · exact .kList h1 h2
    | dic _ _ _ _ => simp [isdic] at h
  | lst h1 _ => exact .base (.lst h1)
  | dic _ _ _ => simp [isdic] at h
inductive TK where
  | non | bool | int | str | tuple | list | dict
def TK.nm : TK → String
  | .non => "NoneType" | .bool => "bool" | .int => "int" | .str => "str" | .tuple => "tuple" | .list => "list" | .dict => "dict"
def isK : TyE → TK → Bool
  | .int, .int => true
  | .int, .bool => true
  | .bool, .bool => true
  | .str, .str => true
  | .tuple, .tuple => true
  | .list, .list => true
  | _, _ => false
theorem kit_tab (t : TyE) (k : TK) : kitB k.nm t.nm = some (isK t k) := by
  cases t <;> cases k <;> decide +kernel
theorem kit_is (t : TyE) (d : D) : kitB (tyN d) t.nm = some (isE t d) := by
  cases d with
  | non => exact (kit_tab t .non).trans (by cases t <;> rfl)
  | bl b => exact (kit_tab t .bool).trans (by cases t <;> rfl)
  | int b => exact (kit_tab t .int).trans (by cases t <;> rfl)
  | str b => exact (kit_tab t .str).trans (by cases t <;> rfl)
  | tup b => exact (kit_tab t .tuple).trans (by cases t <;> rfl)
  | lst b => exact (kit_tab t .list).trans (by cases t <;> rfl)
  | scr b => exact (kit_tab t .list).trans (by cases t <;> rfl)
  | dic t' k v => exact (kit_tab t .dict).trans (by cases t <;> rfl)
end
section
variable {X : Cx} {T : List (Addr × Str)} {W : WX} {x y : Str} {p p2 pos : Pos} {a : Expr} {f : ME}
theorem e_isi (t : TyE) (hm : X.mg "isinstance" = none) (hmt : X.mg y = none) (hv : bootBuiltins y = some (.type t.nm)) (ha : PE X a (tE (gOf X T) W f)) (hg : Gl X "isinstance" := by rfl) (hgt : Gl X y := by rfl) (hn : y ≠ "__name__" := by decide) (hdb : (y == ("__debug__" : Str)) = false := by decide)
    (he : starEach [a, .Name y p2] X.env = (false, eval a X.env) :: starEach [.Name y p2] X.env := by rfl) (he2 : starEach [.Name y p2] X.env = (false, eval (.Name y p2) X.env) :: starEach [] X.env := by rfl) (hpl : (backTo pos (starEach [.Name y p2] X.env)).any (·.1) = false := by rfl) :
    PE X (.Call (.Name "isinstance" p) [a, .Name y p2] [] pos) (tE (gOf X T) W (isM t f)) :=
  pe_mono (pe_callB call_isi hg hm (by decide +kernel) (pa_cons ha (pa_cons (pe_bltn (v := .ty t.nm) hgt hmt hv rfl hn hdb) pa_nil he2) he) (hpl := hpl)  (he := he)) fun σ H Q h => by
    obtain ⟨y, m, ρ, S, p, h⟩ := h
    refine ⟨y, m, ρ, S, p, (Post.bind h).mono fun u S1 m1 H1 E1 R1 ⟨_, _, h1⟩ v rv => ?_⟩
    split at h1
    · rename_i d hd
      split at h1
      · exact h1.elim
      · rename_i nd
        exact ⟨v, .ty t.nm, .type (tyN d), .type t.nm, isE t d, rfl, .ty _, (rv.rt R1 hd).ty (by simpa using nd), kit_ty (kit_is t d), h1 m1 H1 Ext.refl R1 _ (.d (.bl _))⟩
    · exact h1.elim

/-! ### len, all, any, sum, abs, .. -/
def lenG : List D → Option D
  | [.lst xs] => some (.int xs.length)
  | [.tup xs] => some (.int xs.length)
  | [.str x] => if x.length ≤ big then some (.int x.length) else none
  | [.scr xs] => some (.int xs.length)
  | _ => none
theorem RTs.one {G : Gc} {e : List Addr} {H : Hp} {d : D} {vs : List V} (r : RTs G e H [d] vs) : ∃ v, vs = [v] ∧ RT G e H d v := by
  cases r with
  | cons r t => cases t; exact ⟨_, rfl, r⟩
theorem RTs.two {G : Gc} {e : List Addr} {H : Hp} {d d' : D} {vs : List V} (r : RTs G e H [d, d'] vs) : ∃ v w, vs = [v, w] ∧ RT G e H d v ∧ RT G e H d' w := by
  cases r with
  | cons r t => cases t with
    | cons r' t => cases t; exact ⟨_, _, rfl, r, r'⟩
theorem c_len : CallR X (.builtin "len") (rC (gOf X T) lenG) := by
  intro pins s σ H vs us Q I rs ⟨ds, z, e, m, hg, tr, r, q⟩
  unfold lenG at hg
  split at hg
  · cases hg
    obtain ⟨v, rfl, r1⟩ := r.one
    obtain ⟨a, xs, rfl, h1, h2⟩ := r1.lst'
    exact call_len_seq pins s σ H _ us Q I rs ⟨a, xs, rfl, .inl (.of h1), by rw [← h2.len]; exact q _ _ Ext.refl (noKeep rfl) (.int _)⟩
  · cases hg
    obtain ⟨v, rfl, r1⟩ := r.one
    obtain ⟨a, xs, rfl, h1, h2⟩ := r1.tup
    exact call_len_seq pins s σ H _ us Q I rs ⟨a, xs, rfl, .inr h1, by rw [← h2.len]; exact q _ _ Ext.refl (noKeep rfl) (.int _)⟩
  · split at hg
    · rename_i hl
      cases hg
      obtain ⟨v, rfl, r1⟩ := r.one
      cases r1.str
      exact call_len_str pins s σ H _ us Q I rs ⟨_, rfl, big_ok hl, q _ _ Ext.refl (noKeep rfl) (.int _)⟩
    · cases hg
  · rename_i ns
    cases hg
    obtain ⟨v, rfl, r1⟩ := r.one
    obtain ⟨a, rfl, h1⟩ := r1.scr
    exact call_len_seq pins s σ H _ us Q I rs ⟨a, _, rfl, .inl h1, by rw [List.length_map]; exact q _ _ Ext.refl (noKeep rfl) (.int _)⟩
  · cases hg
/-- truths, ints of a list -/
def blsOf : List D → Option (List Bool)
  | [] => some []
  | .bl b :: ds => (blsOf ds).map (b :: ·)
  | _ => none
def intsOf : List D → Option (List Int)
  | [] => some []
  | .int b :: ds => (intsOf ds).map (b :: ·)
  | _ => none
def strsOf : List D → Option (List Str)
  | [] => some []
  | .str b :: ds => (strsOf ds).map (b :: ·)
  | _ => none
theorem RVs.bls {G : Gc} {e : List Addr} {H : Hp} : ∀ {ds : List D} {vs : List V} {bs : List Bool}, RVs G e H ds vs → blsOf ds = some bs → vs = bs.map V.bl
  | _, _, _, .nil, h => by simp [blsOf] at h; subst h; rfl
  | _, _, _, .cons r t, h => by
    unfold blsOf at h
    split at h
    · rename_i q; cases q
    · rename_i b ds q
      cases q
      obtain ⟨bs, h1, rfl⟩ := Option.map_eq_some_iff.mp h
      cases r
      rw [RVs.bls t h1]; rfl
    · cases h
theorem RVs.ints {G : Gc} {e : List Addr} {H : Hp} : ∀ {ds : List D} {vs : List V} {bs : List Int}, RVs G e H ds vs → intsOf ds = some bs → vs = bs.map V.int
  | _, _, _, .nil, h => by simp [intsOf] at h; subst h; rfl
  | _, _, _, .cons r t, h => by
    unfold intsOf at h
    split at h
    · rename_i q; cases q
    · rename_i b ds q
      cases q
      obtain ⟨bs, h1, rfl⟩ := Option.map_eq_some_iff.mp h
      cases r
      rw [RVs.ints t h1]; rfl
    · cases h
theorem RVs.strs {G : Gc} {e : List Addr} {H : Hp} : ∀ {ds : List D} {vs : List V} {bs : List Str}, RVs G e H ds vs → strsOf ds = some bs → vs = bs.map V.str
  | _, _, _, .nil, h => by simp [strsOf] at h; subst h; rfl
  | _, _, _, .cons r t, h => by
    unfold strsOf at h
    split at h
    · rename_i q; cases q
    · rename_i b ds q
      cases q
      obtain ⟨bs, h1, rfl⟩ := Option.map_eq_some_iff.mp h
      cases r
      rw [RVs.strs t h1]; rfl
    · cases h
def allB : List D → Option D
  | [.lst xs] => (blsOf xs).map fun bs => .bl (bs.all id)
  | _ => none
def anyB : List D → Option D
  | [.lst xs] => (blsOf xs).map fun bs => .bl (bs.any id)
  | _ => none
def sumG : List D → Option D
  | [.lst xs] => (intsOf xs).map fun ns => .int ns.sum
  | _ => none
def absG : List D → Option D
  | [.int i] => some (.int (if i < 0 then -i else i))
  | _ => none
theorem c_all (hc : X.calm = true) : CallR X (.builtin "all") (rC (gOf X T) allB) := by
  intro pins s σ H vs us Q I rs ⟨ds, z, e, m, hg, tr, r, q⟩
  unfold allB at hg
  split at hg
  · obtain ⟨bs, h1, rfl⟩ := Option.map_eq_some_iff.mp hg
    obtain ⟨v, rfl, r1⟩ := r.one
    obtain ⟨a, xs, rfl, g1, g2⟩ := r1.lst'
    cases g2.bls h1
    exact cr_all hc pins s σ H _ us Q I rs ⟨a, bs, rfl, .of g1, q _ _ Ext.refl (noKeep rfl) (.bl _)⟩
  · cases hg
theorem c_any (hc : X.calm = true) : CallR X (.builtin "any") (rC (gOf X T) anyB) := by
  intro pins s σ H vs us Q I rs ⟨ds, z, e, m, hg, tr, r, q⟩
  unfold anyB at hg
  split at hg
  · obtain ⟨bs, h1, rfl⟩ := Option.map_eq_some_iff.mp hg
    obtain ⟨v, rfl, r1⟩ := r.one
    obtain ⟨a, xs, rfl, g1, g2⟩ := r1.lst'
    cases g2.bls h1
    exact cr_any hc pins s σ H _ us Q I rs ⟨a, bs, rfl, .of g1, q _ _ Ext.refl (noKeep rfl) (.bl _)⟩
  · cases hg
theorem c_sum (hc : X.calm = true) : CallR X (.builtin "sum") (rC (gOf X T) sumG) := by
  intro pins s σ H vs us Q I rs ⟨ds, z, e, m, hg, tr, r, q⟩
  unfold sumG at hg
  split at hg
  · obtain ⟨bs, h1, rfl⟩ := Option.map_eq_some_iff.mp hg
    obtain ⟨v, rfl, r1⟩ := r.one
    obtain ⟨a, xs, rfl, g1, g2⟩ := r1.lst'
    cases g2.ints h1
    exact cr_sum hc pins s σ H _ us Q I rs ⟨a, bs, rfl, .of g1, q _ _ Ext.refl (noKeep rfl) (.int _)⟩
  · cases hg
theorem c_abs : CallR X (.builtin "abs") (rC (gOf X T) absG) := by
  intro pins s σ H vs us Q I rs ⟨ds, z, e, m, hg, tr, r, q⟩
  unfold absG at hg
  split at hg
  · cases hg
    obtain ⟨v, rfl, r1⟩ := r.one
    cases r1.int
    exact call_abs pins s σ H _ us Q I rs ⟨_, rfl, q _ _ Ext.refl (noKeep rfl) (.int _)⟩
  · cases hg
def intG : List D → Option D
  | [.int i] => some (.int i)
  | [.bl b] => some (.int (if b then 1 else 0))
  | [.str x] => if x.length ≤ 640 then (PySem.intText? x).map D.int else none
  | _ => none
theorem c_int : CallR X (.type "int") (rC (gOf X T) intG) := by
  intro pins s σ H vs us Q I rs ⟨ds, z, e, m, hg, tr, r, q⟩
  unfold intG at hg
  split at hg
  · cases hg
    obtain ⟨v, rfl, r1⟩ := r.one
    cases r1.int
    exact call_int1 pins s σ H _ us Q I rs (.inl ⟨_, rfl, q _ _ Ext.refl (noKeep rfl) (.int _)⟩)
  · cases hg
    obtain ⟨v, rfl, r1⟩ := r.one
    cases r1.bl
    exact call_int1 pins s σ H _ us Q I rs (.inr ⟨_, rfl, q _ _ Ext.refl (noKeep rfl) (.int _)⟩)
  · split at hg
    · rename_i hl
      obtain ⟨n, h1, rfl⟩ := Option.map_eq_some_iff.mp hg
      obtain ⟨v, rfl, r1⟩ := r.one
      cases r1.str
      exact call_int_str pins s σ H _ us Q I rs ⟨_, n, rfl, h1, hl, q _ _ Ext.refl (noKeep rfl) (.int _)⟩
    · cases hg
  · cases hg
def listG : List D → Option D
  | [.lst xs] => some (.lst xs)
  | [.tup xs] => some (.lst xs)
  | _ => none
def tupleG : List D → Option D
  | [.lst xs] => some (.tup xs)
  | [.tup xs] => some (.tup xs)
  | _ => none
theorem c_list : CallR X (.type "list") (rC (gOf X T) listG) := by
  intro pins s σ H vs us Q I rs ⟨ds, z, e, m, hg, tr, r, q⟩
  unfold listG at hg
  split at hg
  · cases hg
    obtain ⟨v, rfl, r1⟩ := r.one
    obtain ⟨a, xs, rfl, g1, g2⟩ := r1.lst'
    exact call_list_of pins s σ H _ us Q I rs ⟨a, xs, rfl, .inl (.of g1), fun l hl => q _ _ (Ext.new hl) (newKeep hl) (RV.newLst g2 hl tr)⟩
  · cases hg
    obtain ⟨v, rfl, r1⟩ := r.one
    obtain ⟨a, xs, rfl, g1, g2⟩ := r1.tup
    exact call_list_of pins s σ H _ us Q I rs ⟨a, xs, rfl, .inr g1, fun l hl => q _ _ (Ext.new hl) (newKeep hl) (RV.newLst g2 hl tr)⟩
  · cases hg
theorem c_tuple : CallR X (.type "tuple") (rC (gOf X T) tupleG) := by
  intro pins s σ H vs us Q I rs ⟨ds, z, e, m, hg, tr, r, q⟩
  unfold tupleG at hg
  split at hg
  · cases hg
    obtain ⟨v, rfl, r1⟩ := r.one
    obtain ⟨a, xs, rfl, g1, g2⟩ := r1.lst'
    exact call_tuple_of pins s σ H _ us Q I rs ⟨a, xs, rfl, .inl ⟨.of g1, fun l hl => q _ _ (Ext.new hl) (newKeep hl) (RV.newTup g2 hl tr)⟩⟩
  · cases hg
    obtain ⟨v, rfl, r1⟩ := r.one
    obtain ⟨a, xs, rfl, g1, g2⟩ := r1.tup
    exact call_tuple_of pins s σ H _ us Q I rs ⟨a, xs, rfl, .inr ⟨g1, q _ _ Ext.refl (noKeep rfl) (.tup g1 g2)⟩⟩
  · cases hg
end
end Mir

/-! Mir9: what is walked; for; while; comprehensions; cells that are forgotten. -/
namespace Mir
open PySem PySem.Spec PyProof.Rows L2 RZ
abbrev MI := Env → Sto → O (List D)
/-- J yields these data, one after another, whatever becomes of the cells -/
def Yl (G : Gc) (x m : List Addr) (H : Hp) (J : It) (ds : List D) : Prop := ∀ x2 m2 H2, (∀ b ∈ x2, b ∈ x ∨ H b = none) → Ext G m H m2 H2 → (∀ b ∈ x2 ++ m2, ∃ o, H2 b = some o) → ∀ i,
  (∀ d, ds[i]? = some d → J.go i H2 ∧ ∀ v H3, J.yld i H2 v H3 → Ext G m2 H2 m2 H3 ∧ (∀ a ∈ m2, H2 a ≠ none → H3 a = H2 a) ∧ RV G (x2 ++ m2) H3 d v) ∧ (ds.length = i → J.stop i H2)
theorem Ext.kp2 {G : Gc} {x x2 m m2 : List Addr} {H H2 : Hp} (E : Ext G m H m2 H2) (hx : ∀ b ∈ x2, b ∈ x ∨ H b = none) : Keep G (x ++ m) H (x2 ++ m2) H2 := by
  have ni : ∀ {a : Addr} {o : HO}, H a = some o → (∀ ps, o ≠ .tbl ps) → a ∉ x ++ m → a ∉ x2 ++ m2 := fun {a o} q t n z => by
    rcases List.mem_append.mp z with z | z
    · rcases hx a z with w | w
      · exact n (List.mem_append_left _ w)
      · rw [w] at q; cases q
    · exact E.notin (x := x) q t n (List.mem_append_right _ z)
  refine ⟨fun a xs h => SqT.ext E h, fun a ns h => Sc.ext E h, fun a xs h n => ⟨E.keep _ _ h (fun z => n (List.mem_append_right _ z)) (fun ps z => by cases z), ni h (fun ps z => by cases z) n⟩, fun a o t ks xs h n r => ⟨E.keep _ _ h (fun z => n (List.mem_append_right _ z)) r.notbl, ni h r.notbl n, r.ext fun a xs h => SqT.ext E h⟩⟩
def tI (G : Gc) (W : WX) (f : MI) : TI := fun σ H R => ∃ x m ρ S, Rp G x m H ρ S σ ∧ Post G W x m σ H (f ρ S) fun ds _ m' H' => ∀ J, Yl G x m' H' J ds → R J H'
section
variable {G : Gc} {x m : List Addr} {H : Hp} {a b : Addr} {ds es : List D} {xs ys : List V}
theorem yl_tup (h : SqT G.K H a xs) (r : RVs G (x ++ m) H ds xs) : Yl G x m H (Itt G.K a) ds := fun x2 m2 H2 hx E tr i => by
  have h2 := SqT.ext E h
  have r2 := r.keep (E.kp2 hx)
  refine ⟨fun d hd => ?_, fun hl => ⟨xs, h2, by rw [← r.len]; exact Nat.le_of_eq hl⟩⟩
  obtain ⟨v, q1, q2⟩ := r2.get hd
  refine ⟨⟨xs, v, h2, q1⟩, fun v' H3 ⟨e1, e2⟩ => ?_⟩
  subst e1
  have := e2 xs h2
  rw [q1] at this
  cases this
  exact ⟨Ext.refl, fun _ _ _ => rfl, q2⟩
theorem yl_lst (h : H a = some (.lst xs)) (hn : a ∉ x ++ m) (r : RVs G (x ++ m) H ds xs) : Yl G x m H (Itl G.K a) ds := fun x2 m2 H2 hx E tr i => by
  have h2 : SqL G.K H2 a xs := .of (E.keep _ _ h (fun z => hn (List.mem_append_right _ z)) (fun ps z => by cases z))
  have r2 := r.keep (E.kp2 hx)
  refine ⟨fun d hd => ?_, fun hl => ⟨xs, h2, by rw [← r.len]; exact Nat.le_of_eq hl⟩⟩
  obtain ⟨v, q1, q2⟩ := r2.get hd
  refine ⟨⟨xs, v, h2, q1⟩, fun v' H3 ⟨e1, e2⟩ => ?_⟩
  subst e1
  have := e2 xs h2
  rw [q1] at this
  cases this
  exact ⟨Ext.refl, fun _ _ _ => rfl, q2⟩
theorem yl_rng {lo : Int} {n : Nat} : Yl G x m H (Itr lo n) ((List.range n).map fun i => D.int (lo + (i : Nat))) := fun x2 m2 H2 hx E tr i => by
  refine ⟨fun d hd => ?_, fun hl => Nat.le_of_eq (by simpa using hl : n = i)⟩
  rw [List.getElem?_map] at hd
  cases q : (List.range n)[i]? with
  | none => rw [q] at hd; cases hd
  | some j =>
    rw [q] at hd
    cases hd
    have hi : i < n := by
      have := (List.getElem?_eq_some_iff.mp q).1
      simpa using this
    have hj : j = i := by
      rw [List.getElem?_range hi] at q
      exact (Option.some.inj q).symm
    subst hj
    refine ⟨hi, fun v H3 ⟨e1, e2⟩ => ?_⟩
    subst e1 e2
    exact ⟨Ext.refl, fun _ _ _ => rfl, .int _⟩
def pairs : List D → List D → List D
  | x :: xs, y :: ys => .tup [x, y] :: pairs xs ys
  | _, _ => []
theorem pairs_get : ∀ {ds es : List D} {i : Nat}, (∀ d, (pairs ds es)[i]? = some d → ∃ a b, ds[i]? = some a ∧ es[i]? = some b ∧ d = .tup [a, b]) ∧ ((pairs ds es).length ≤ i → ds.length ≤ i ∨ es.length ≤ i)
  | [], es, i => ⟨fun d h => by simp [pairs] at h, fun _ => .inl (by simp)⟩
  | d :: ds, [], i => ⟨fun d h => by simp [pairs] at h, fun _ => .inr (by simp)⟩
  | d :: ds, e :: es, 0 => ⟨fun d' h => by simp [pairs] at h; exact ⟨d, e, rfl, rfl, h.symm⟩, fun h => by simp [pairs] at h⟩
  | d :: ds, e :: es, i + 1 => by
    have := pairs_get (ds := ds) (es := es) (i := i)
    simp only [pairs, List.getElem?_cons_succ, List.length_cons, Nat.add_le_add_iff_right]
    exact this
theorem newPair {T : Addr} {v w : V} {d e : D} {H : Hp} (hT : H T = none) (tr : ∀ b ∈ x ++ m, ∃ o, H b = some o) (r1 : RV G (x ++ m) H d v) (r2 : RV G (x ++ m) H e w) :
    Ext G m H m (upd H T (.tup [v, w])) ∧ (∀ a ∈ m, H a ≠ none → upd H T (.tup [v, w]) a = H a) ∧ RV G (x ++ m) (upd H T (.tup [v, w])) (.tup [d, e]) (.ref T) :=
  ⟨Ext.new hT, fun a _ q => upd_ne fun z => q (z ▸ hT), RV.newTup (.cons r1 (.cons r2 .nil)) hT tr⟩
theorem yl_zipT (h : SqT G.K H a xs) (h' : SqT G.K H b ys) (r : RVs G (x ++ m) H ds xs) (r' : RVs G (x ++ m) H es ys) : Yl G x m H (ItzT G.K a b) (pairs ds es) := fun x2 m2 H2 hx E tr i => by
  have h2 := SqT.ext E h
  have h2' := SqT.ext E h'
  have r2 := r.keep (E.kp2 hx)
  have r2' := r'.keep (E.kp2 hx)
  refine ⟨fun d hd => ?_, fun hl => ⟨xs, ys, h2, h2', by rw [← r.len, ← r'.len]; exact pairs_get.2 (Nat.le_of_eq hl)⟩⟩
  obtain ⟨d1, d2, g1, g2, rfl⟩ := pairs_get.1 d hd
  obtain ⟨v, q1, q2⟩ := r2.get g1
  obtain ⟨v', q1', q2'⟩ := r2'.get g2
  refine ⟨⟨xs, ys, v, v', h2, h2', q1, q1'⟩, fun w H3 ⟨T, y1, y2, e1, e2, e3, e4, e5⟩ => ?_⟩
  have z1 := e4 xs h2
  have z2 := e5 ys h2'
  rw [q1] at z1
  rw [q1'] at z2
  cases z1
  cases z2
  subst e1 e3
  exact newPair e2 tr q2 q2'
theorem yl_zipL (h : H a = some (.lst xs)) (hn : a ∉ x ++ m) (h' : H b = some (.lst ys)) (hn' : b ∉ x ++ m) (r : RVs G (x ++ m) H ds xs) (r' : RVs G (x ++ m) H es ys) : Yl G x m H (Itz G.K a b) (pairs ds es) := fun x2 m2 H2 hx E tr i => by
  have h2 : SqL G.K H2 a xs := .of (E.keep _ _ h (fun z => hn (List.mem_append_right _ z)) (fun ps z => by cases z))
  have h2' : SqL G.K H2 b ys := .of (E.keep _ _ h' (fun z => hn' (List.mem_append_right _ z)) (fun ps z => by cases z))
  have r2 := r.keep (E.kp2 hx)
  have r2' := r'.keep (E.kp2 hx)
  refine ⟨fun d hd => ?_, fun hl => ⟨xs, ys, h2, h2', by rw [← r.len, ← r'.len]; exact pairs_get.2 (Nat.le_of_eq hl)⟩⟩
  obtain ⟨d1, d2, g1, g2, rfl⟩ := pairs_get.1 d hd
  obtain ⟨v, q1, q2⟩ := r2.get g1
  obtain ⟨v', q1', q2'⟩ := r2'.get g2
  refine ⟨⟨xs, ys, v, v', h2, h2', q1, q1'⟩, fun w H3 ⟨T, y1, y2, e1, e2, e3, e4, e5⟩ => ?_⟩
  have z1 := e4 xs h2
  have z2 := e5 ys h2'
  rw [q1] at z1
  rw [q1'] at z2
  cases z1
  cases z2
  subst e1 e3
  exact newPair e2 tr q2 q2'
def enums (n : Nat) : List D → List D
  | [] => []
  | d :: ds => .tup [.int (n : Nat), d] :: enums (n + 1) ds
theorem enums_get : ∀ {ds : List D} {n i : Nat}, (∀ d, (enums n ds)[i]? = some d → ∃ a, ds[i]? = some a ∧ d = .tup [.int ((n + i : Nat) : Int), a])
  | [], n, i, d, h => by simp [enums] at h
  | d :: ds, n, 0, d', h => by simp [enums] at h; exact ⟨d, rfl, h.symm⟩
  | d :: ds, n, i + 1, d', h => by
    obtain ⟨a, h1, h2⟩ := enums_get (ds := ds) (n := n + 1) (i := i) d' (by simpa [enums] using h)
    exact ⟨a, by simpa using h1, by rw [h2, show n + 1 + i = n + (i + 1) by omega]⟩
theorem enums_len : ∀ {ds : List D} {n : Nat}, (enums n ds).length = ds.length
  | [], n => rfl
  | d :: ds, n => by simp [enums, enums_len (ds := ds)]
theorem yl_enumL (h : H a = some (.lst xs)) (hn : a ∉ x ++ m) (r : RVs G (x ++ m) H ds xs) : Yl G x m H (Ite G.K a) (enums 0 ds) := fun x2 m2 H2 hx E tr i => by
  have h2 : SqL G.K H2 a xs := .of (E.keep _ _ h (fun z => hn (List.mem_append_right _ z)) (fun ps z => by cases z))
  have r2 := r.keep (E.kp2 hx)
  refine ⟨fun d hd => ?_, fun hl => ⟨xs, h2, by rw [← r.len, ← enums_len (n := 0)]; exact Nat.le_of_eq hl⟩⟩
  obtain ⟨d1, g1, rfl⟩ := enums_get d hd
  obtain ⟨v, q1, q2⟩ := r2.get g1
  refine ⟨⟨xs, v, h2, q1⟩, fun w H3 ⟨T, y1, e1, e2, e3, e4⟩ => ?_⟩
  have z1 := e4 xs h2
  rw [q1] at z1
  cases z1
  subst e1 e3
  rw [Nat.zero_add]
  exact newPair e2 tr (.int _) q2
end

/-! ### the walked expressions -/
def seqI (f : ME) : MI := fun ρ S => (f ρ S).bind fun u S1 => match u with
  | .d (.tup xs) => .ok xs S1
  | .d (.lst xs) => .ok xs S1
  | _ => .un
def rng1I (f : ME) : MI := fun ρ S => (argsM [f] ρ S).bind fun us S1 => match us with
  | [.d (.int n)] => if n ≤ 1000000 ∧ -1000000 ≤ n then .ok ((List.range n.toNat).map fun i => .int (0 + (i : Nat))) S1 else .un
  | _ => .un
def rng2I (f g : ME) : MI := fun ρ S => (argsM [f, g] ρ S).bind fun us S1 => match us with
  | [.d (.int l), .d (.int n)] => if n ≤ 1000000 ∧ -1000000 ≤ n ∧ l ≤ 1000000 ∧ -1000000 ≤ l then .ok ((List.range (n - l).toNat).map fun i => .int (l + (i : Nat))) S1 else .un
  | _ => .un
def zipI (f g : ME) : MI := fun ρ S => (argsM [f, g] ρ S).bind fun us S1 => match us with
  | [.d (.tup xs), .d (.tup ys)] => .ok (pairs xs ys) S1
  | [.d (.lst xs), .d (.lst ys)] => .ok (pairs xs ys) S1
  | _ => .un
def enuI (f : ME) : MI := fun ρ S => (argsM [f] ρ S).bind fun us S1 => match us with
  | [.d (.lst xs)] => .ok (enums 0 xs) S1
  | _ => .un
theorem pi_mono {X : Cx} {tg e : Expr} {t t' : TI} (h : PI X tg e t) (q : ∀ σ H R, t' σ H R → t σ H R) : PI X tg e t' := ⟨fun pins s σ H R I w => h.run pins s σ H R I (q σ H R w)⟩
section
variable {X : Cx} {T : List (Addr × Str)} {W : WX} {tg e e2 : Expr} {es : List Expr} {f g : ME} {fs : List ME} {p pos : Pos}
theorem i_seq (he : PE X e (tE (gOf X T) W f)) : PI X tg e (tI (gOf X T) W (seqI f)) := ⟨fun pins s σ H R I h => by
  obtain ⟨x, m, ρ, S, p, h⟩ := h
  have h1 := Post.bind h
  cases q : f ρ S with
  | un => rw [q] at h1; exact h1.elim
  | ex ee S' =>
    refine (pi_tup he).run pins s σ H R I ⟨x, m, ρ, S, p, ?_⟩
    rw [q] at h1 ⊢
    exact h1
  | ok u S' =>
    rw [q] at h1
    cases u with
    | c i => exact (pi_tup he).run pins s σ H R I ⟨x, m, ρ, S, p, by rw [q]; exact fun m' H' E r => (h1 m' H' E r).2.2.elim⟩
    | t i => exact (pi_tup he).run pins s σ H R I ⟨x, m, ρ, S, p, by rw [q]; exact fun m' H' E r => (h1 m' H' E r).2.2.elim⟩
    | d d =>
      cases d with
      | tup xs =>
        refine (pi_tup he).run pins s σ H R I ⟨x, m, ρ, S, p, ?_⟩
        rw [q]
        intro m1 H1 E1 R1 v rv
        cases rv with
        | d rv => cases rv with
          | tup t1 t2 => exact ⟨_, rfl, ⟨_, t1⟩, (h1 m1 H1 E1 R1).2.2 m1 H1 Ext.refl R1 _ (yl_tup t1 t2)⟩
      | lst xs =>
        refine (pi_list he).run pins s σ H R I ⟨x, m, ρ, S, p, ?_⟩
        rw [q]
        intro m1 H1 E1 R1 v rv
        cases rv with
        | d rv => cases rv with
          | lst t1 tn t2 => exact ⟨_, rfl, ⟨_, .of t1⟩, (h1 m1 H1 E1 R1).2.2 m1 H1 Ext.refl R1 _ (yl_lst t1 tn t2)⟩
      | _ => exact (pi_tup he).run pins s σ H R I ⟨x, m, ρ, S, p, by rw [q]; exact fun m' H' E r => (h1 m' H' E r).2.2.elim⟩⟩
theorem RUs.i1 {G : Gc} {e m : List Addr} {H : Hp} {i : Int} {vs : List V} (r : RUs G e m H [.d (.int i)] vs) : vs = [.int i] := by
  cases r with
  | cons r t => cases t; cases r with
    | d r => cases r; rfl
theorem RUs.i2 {G : Gc} {e m : List Addr} {H : Hp} {i j : Int} {vs : List V} (r : RUs G e m H [.d (.int i), .d (.int j)] vs) : vs = [.int i, .int j] := by
  cases r with
  | cons r t => cases t with
    | cons r' t => cases t; cases r with
      | d r => cases r; cases r' with
        | d r => cases r; rfl
theorem i_rng1 (hm : X.mg "range" = none) (ha : PA X [e] (tA (gOf X T) W (argsM [f]))) (hg : Gl X "range" := by rfl) (hs : starEach [e] X.env = [(false, eval e X.env)] := by rfl) : PI X tg (.Call (.Name "range" p) [e] [] pos) (tI (gOf X T) W (rng1I f)) :=
  pi_mono (pi_range1 hg hm ha hs) fun σ H R h => by
    obtain ⟨x, m, ρ, S, p, h⟩ := h
    refine ⟨x, m, ρ, S, p, (Post.bind h).mono fun us S1 m1 H1 E1 R1 ⟨_, _, h1⟩ vs rvs => ?_⟩
    split at h1
    · split at h1
      · rename_i hb
        exact ⟨_, rvs.i1, by omega, by omega, h1 m1 H1 Ext.refl R1 _ yl_rng⟩
      · exact h1.elim
    · exact h1.elim
theorem i_rng2 (hm : X.mg "range" = none) (ha : PA X [e, e2] (tA (gOf X T) W (argsM [f, g]))) (hg : Gl X "range" := by rfl) (hs : starEach [e, e2] X.env = [(false, eval e X.env), (false, eval e2 X.env)] := by rfl) (hs2 : starEach [e2] X.env = [(false, eval e2 X.env)] := by rfl) : PI X tg (.Call (.Name "range" p) [e, e2] [] pos) (tI (gOf X T) W (rng2I f g)) :=
  pi_mono (pi_range2 hg hm ha hs hs2) fun σ H R h => by
    obtain ⟨x, m, ρ, S, p, h⟩ := h
    refine ⟨x, m, ρ, S, p, (Post.bind h).mono fun us S1 m1 H1 E1 R1 ⟨_, _, h1⟩ vs rvs => ?_⟩
    split at h1
    · split at h1
      · rename_i hb
        exact ⟨_, _, rvs.i2, ⟨by omega, by omega, by omega, by omega⟩, h1 m1 H1 Ext.refl R1 _ yl_rng⟩
      · exact h1.elim
    · exact h1.elim
theorem i_zip {elts : List Expr} {kk : Nat} {tpos : Pos} (hm : X.mg "zip" = none) (ha : PA X [e, e2] (tA (gOf X T) W (argsM [f, g]))) (hg : Gl X "zip" := by rfl) (hs : starEach [e, e2] X.env = (false, eval e X.env) :: starEach [e2] X.env := by rfl) (hpl : (backTo pos (starEach [e2] X.env)).any (·.1) = false := by rfl) :
    PI X (.Tuple elts kk tpos) (.Call (.Name "zip" p) [e, e2] [] pos) (tI (gOf X T) W (zipI f g)) := pi_mono (pi_zipA hg hm ha hs hpl) fun σ H R h => by
  obtain ⟨x, m, ρ, S, p, h⟩ := h
  refine ⟨x, m, ρ, S, p, (Post.bind h).mono fun us S1 m1 H1 E1 R1 ⟨_, _, h1⟩ vs rvs => ?_⟩
  split at h1
  · cases rvs with
    | cons r t => cases t with
      | cons r' t => cases t; cases r with
        | d r => cases r with
          | tup t1 t2 => cases r' with
            | d r' => cases r' with
              | tup t3 t4 => exact ⟨_, _, _, _, rfl, .inr ⟨t1, t3, h1 m1 H1 Ext.refl R1 _ (yl_zipT t1 t3 t2 t4)⟩⟩
  · cases rvs with
    | cons r t => cases t with
      | cons r' t => cases t; cases r with
        | d r => cases r with
          | lst t1 n1 t2 => cases r' with
            | d r' => cases r' with
              | lst t3 n3 t4 => exact ⟨_, _, _, _, rfl, .inl ⟨.of t1, .of t3, h1 m1 H1 Ext.refl R1 _ (yl_zipL t1 n1 t3 n3 t2 t4)⟩⟩
  · exact h1.elim
theorem i_enu {elts : List Expr} {kk : Nat} {tpos : Pos} (hm : X.mg "enumerate" = none) (ha : PA X [e] (tA (gOf X T) W (argsM [f]))) (hg : Gl X "enumerate" := by rfl) (hs : starEach [e] X.env = [(false, eval e X.env)] := by rfl) :
    PI X (.Tuple elts kk tpos) (.Call (.Name "enumerate" p) [e] [] pos) (tI (gOf X T) W (enuI f)) := pi_mono (pi_enum hg hm ha hs) fun σ H R h => by
  obtain ⟨x, m, ρ, S, p, h⟩ := h
  refine ⟨x, m, ρ, S, p, (Post.bind h).mono fun us S1 m1 H1 E1 R1 ⟨_, _, h1⟩ vs rvs => ?_⟩
  split at h1
  · cases rvs with
    | cons r t => cases t; cases r with
      | d r => cases r with
        | lst t1 n1 t2 => exact ⟨_, _, rfl, .of t1, h1 m1 H1 Ext.refl R1 _ (yl_enumL t1 n1 t2)⟩
  · exact h1.elim
end
end Mir

/-! Mir10: for, while, comprehensions, cells that are forgotten. -/
namespace Mir
open PySem PySem.Spec PyProof.Rows L2 RZ
/-! ### for -/
def forL (g : MG) (f : MS) : List D → MS
  | [], ρ, S => .nx ρ S
  | d :: ds, ρ, S => match g (.d d) ρ S with
    | none => .un
    | some q => match f q.1 q.2 with
      | .nx ρ' S' => forL g f ds ρ' S'
      | .ct ρ' S' => forL g f ds ρ' S'
      | .bk ρ' S' => .nx ρ' S'
      | o => o
def forM (it : MI) (g : MG) (f : MS) : MS := fun ρ S => match it ρ S with
  | .ok ds S' => forL g f ds ρ S'
  | .ex e S' => .ex e ρ S'
  | .un => .un
/-- one turn of a while, n turns at most -/
def whN (t : MT) (f : MS) : Nat → MS
  | 0, _, _ => .un
  | n + 1, ρ, S => match t ρ S with
    | .ok true S' => match f ρ S' with
      | .nx ρ' S'' => whN t f n ρ' S''
      | .ct ρ' S'' => whN t f n ρ' S''
      | .bk ρ' S'' => .nx ρ' S''
      | o => o
    | .ok false S' => .nx ρ S'
    | .ex e S' => .ex e ρ S'
    | .un => .un
open Classical in
noncomputable def whM (t : MT) (f : MS) : MS := fun ρ S => if h : ∃ n, whN t f n ρ S ≠ .un then whN t f (Classical.choose h) ρ S else .un
theorem whN_more {t : MT} {f : MS} : ∀ {n k : Nat} {ρ : Env} {S : Sto}, whN t f n ρ S ≠ .un → whN t f (n + k) ρ S = whN t f n ρ S
  | 0, k, ρ, S, h => (h rfl).elim
  | n + 1, k, ρ, S, h => by
    rw [show n + 1 + k = n + k + 1 by omega]
    unfold whN at h ⊢
    split
    · rename_i S' q
      rw [q] at h
      dsimp only at h
      split
      · rename_i q2
        rw [q2] at h
        exact whN_more h
      · rename_i q2
        rw [q2] at h
        exact whN_more h
      · rfl
      · rfl
    · rfl
    · rfl
    · rfl
theorem whM_eq {t : MT} {f : MS} {n : Nat} {ρ : Env} {S : Sto} (h : whN t f n ρ S ≠ .un) : whM t f ρ S = whN t f n ρ S := by
  unfold whM
  have e : ∃ n, whN t f n ρ S ≠ .un := ⟨n, h⟩
  rw [dif_pos e]
  have h2 := Classical.choose_spec e
  rcases Nat.le_total n (Classical.choose e) with q | q
  · obtain ⟨k, hk⟩ := Nat.le.dest q
    rw [← hk, whN_more h]
  · obtain ⟨k, hk⟩ := Nat.le.dest q
    have := whN_more (k := k) h2
    rw [hk] at this
    exact this.symm
section
variable {X : Cx} {T : List (Addr × Str)} {W : WX} {tg iter c : Expr} {body : List Stmt} {gt : MG} {f : MS} {fi : MI} {tc : MT} {pos : Pos}
theorem s_for (hp : PassesOwn (model X.prog X.w) X.A X.env X.xe) (hc : X.calm = true) (hi : PI X tg iter (tI (gOf X T) W fi)) (hg : PG X tg (tG (gOf X T) W gt)) (hb : PSs X body (tS (gOf X T) W f))
    (hs : ∀ x, foldedSetIterable iter X.env x = pure x := by intro _; rfl) : PS X (.For tg iter body [] pos) (tS (gOf X T) W (forM fi gt f)) := ps_mono (ps_for hp hc hi hg hb hs) fun Dn σ H h => by
  obtain ⟨x, m, ρ, S, p, h⟩ := h
  cases q : fi ρ S with
  | un => simp only [forM, q] at h; exact h.elim
  | ex ee S' =>
    refine ⟨x, m, ρ, S, p, ?_⟩
    simp only [forM, q] at h
    rw [q]
    exact fun m' H' cls d E R rx => h m' H' σ cls d E (p.ext E R) rx
  | ok ds S' =>
    refine ⟨x, m, ρ, S, p, ?_⟩
    simp only [forM, q] at h
    rw [q]
    intro m1 H1 E1 R1 J hJ
    have h := PostS.shift E1 h
    have p1 := p.ext E1 R1
    refine ⟨fun i k σ2 H2 => ∃ m2 ρ2 S2, k = ds.length - i ∧ i ≤ ds.length ∧ Ext (gOf X T) m1 H1 m2 H2 ∧ Rp (gOf X T) x m2 H2 ρ2 S2 σ2 ∧ PostS (gOf X T) W x m2 H2 (forL gt f (ds.drop i) ρ2 S2) Dn,
      ⟨ds.length, m1, ρ, S', by simp, Nat.zero_le _, Ext.refl, p1, by rw [List.drop_zero]; exact h⟩, ?_⟩
    rintro i k σ2 H2 ⟨m2, ρ2, S2, rfl, hi', E2, p2, h2⟩
    have hy := hJ x m2 H2 (fun b hb => .inl hb) E2 p2.trk i
    by_cases hl : i < ds.length
    · obtain ⟨hgo, hyl⟩ := hy.1 ds[i] (List.getElem?_eq_getElem hl)
      rw [List.drop_eq_getElem_cons hl] at h2
      refine .inr ⟨hgo, fun σ3 H3 => ∃ m3 ρ3 S3, Ext (gOf X T) m1 H1 m3 H3 ∧ Rp (gOf X T) x m3 H3 ρ3 S3 σ3 ∧ PostS (gOf X T) W x m3 H3 (forL gt f (ds.drop (i + 1)) ρ3 S3) Dn, ?_, ?_⟩
      · rintro σ3 H3 ⟨m3, ρ3, S3, E3, p3, h3⟩
        exact ⟨ds.length - (i + 1), by omega, m3, ρ3, S3, rfl, hl, E3, p3, h3⟩
      · intro v H3 yv
        obtain ⟨E3, k3, r3⟩ := hyl v H3 yv
        have R3 : RS (gOf X T) (x ++ m2) m2 H3 S2 := p2.sto.stay E3 fun a ha => k3 a ha (by obtain ⟨o, q⟩ := p2.sto.live ha; rw [q]; simp)
        have p3 := p2.ext E3 R3
        refine ⟨x, m2, ρ2, S2, .d ds[i], p3, .d r3, ?_⟩
        simp only [forL] at h2
        cases q3 : gt (.d ds[i]) ρ2 S2 with
        | none => rw [q3] at h2; exact h2.elim
        | some q4 =>
          rw [q3] at h2
          refine fun m4 H4 σ4 E4 p4 => ⟨x, m4, q4.1, q4.2, p4, ?_⟩
          have h2 := PostS.shift (E3.trans E4) h2
          have E14 := (E2.trans E3).trans E4
          dsimp only at h2
          cases q5 : f q4.1 q4.2 with
          | nx ρ5 S5 =>
            rw [q5] at h2
            exact fun m5 H5 σ5 E5 p5 => ⟨m5, ρ5, S5, E14.trans E5, p5, PostS.shift E5 h2⟩
          | ct ρ5 S5 =>
            rw [q5] at h2
            exact fun m5 H5 σ5 E5 p5 => ⟨m5, ρ5, S5, E14.trans E5, p5, PostS.shift E5 h2⟩
          | bk ρ5 S5 => rw [q5] at h2; exact h2
          | rt u S5 => rw [q5] at h2; exact h2
          | ex ee ρ5 S5 => rw [q5] at h2; exact h2
          | un => rw [q5] at h2; exact h2
    · have e : i = ds.length := by omega
      refine .inl ⟨hy.2 (by omega), ?_⟩
      rw [e, List.drop_length] at h2
      exact h2 m2 H2 σ2 Ext.refl p2
theorem s_while (hp : PassesOwn (model X.prog X.w) X.A X.env X.xe) (hc : PT X c (tT (gOf X T) W tc)) (hb : PSs X body (tS (gOf X T) W f)) : PS X (.While c body [] pos) (tS (gOf X T) W (whM tc f)) := ps_mono (ps_while hp hc hb) fun Dn σ H h => by
  obtain ⟨x, m, ρ, S, p, h⟩ := h
  have hn : ∃ n, PostS (gOf X T) W x m H (whN tc f n ρ S) Dn := by
    unfold whM at h
    split at h
    · exact ⟨_, h⟩
    · exact h.elim
  obtain ⟨n, h⟩ := hn
  refine ⟨fun k σ2 H2 => ∃ m2 ρ2 S2, Rp (gOf X T) x m2 H2 ρ2 S2 σ2 ∧ PostS (gOf X T) W x m2 H2 (whN tc f k ρ2 S2) Dn, ⟨n, m, ρ, S, p, h⟩, ?_⟩
  rintro k σ2 H2 ⟨m2, ρ2, S2, p2, h2⟩
  refine ⟨x, m2, ρ2, S2, p2, ?_⟩
  cases k with
  | zero => exact h2.elim
  | succ k =>
    unfold whN at h2
    cases q : tc ρ2 S2 with
    | un => rw [q] at h2; exact h2
    | ex ee S' => rw [q] at h2; exact fun m' H' cls d E R rx => h2 m' H' σ2 cls d E (p2.ext E R) rx
    | ok b S' =>
      rw [q] at h2
      intro m3 H3 E3 R3
      have p3 := p2.ext E3 R3
      have h2 := PostS.shift E3 h2
      cases b with
      | false => exact iteF (h2 m3 H3 σ2 Ext.refl p3)
      | true =>
        refine iteT ⟨fun σ4 H4 => ∃ m4 ρ4 S4, Rp (gOf X T) x m4 H4 ρ4 S4 σ4 ∧ PostS (gOf X T) W x m4 H4 (whN tc f k ρ4 S4) Dn, fun σ4 H4 ⟨m4, ρ4, S4, p4, h4⟩ => ⟨k, Nat.lt_succ_self _, m4, ρ4, S4, p4, h4⟩, x, m3, ρ2, S', p3, ?_⟩
        dsimp only at h2
        cases q5 : f ρ2 S' with
        | nx ρ5 S5 => rw [q5] at h2; exact fun m5 H5 σ5 E5 p5 => ⟨m5, ρ5, S5, p5, PostS.shift E5 h2⟩
        | ct ρ5 S5 => rw [q5] at h2; exact fun m5 H5 σ5 E5 p5 => ⟨m5, ρ5, S5, p5, PostS.shift E5 h2⟩
        | bk ρ5 S5 => rw [q5] at h2; exact h2
        | rt u S5 => rw [q5] at h2; exact h2
        | ex ee ρ5 S5 => rw [q5] at h2; exact h2
        | un => rw [q5] at h2; exact h2
end

/-! ### cells that are forgotten -/
def wipeE (ρ : Env) : List Nat → Env
  | [] => ρ
  | i :: is => wipeE (ρ.set i none) is
def lowU (n : Nat) : Option U → Bool
  | some (.c i) => decide (i < n)
  | some (.t _) => false
  | _ => true
def scpM (dead : List Nat) (f : MS) : MS := fun ρ S => match f ρ S with
  | .nx ρ' S' => if (wipeE ρ' dead).all (lowU S.length) then .nx (wipeE ρ' dead) (S'.take S.length) else .un
  | .ct ρ' S' => if (wipeE ρ' dead).all (lowU S.length) then .ct (wipeE ρ' dead) (S'.take S.length) else .un
  | o => o
section
variable {G : Gc} {x m m' : List Addr} {H H' : Hp}
theorem RE.wipe {e : List Addr} : ∀ (is : List Nat) {ρ : Env} {σ : St}, RE G e m H ρ σ → RE G e m H (wipeE ρ is) σ
  | [], _, _, r => r
  | i :: is, _, _, r => RE.wipe is (RE.wipe1 i r)
theorem RE.low {n : Nat} : ∀ {ρ : Env} {σ : St}, RE G (x ++ m) m H ρ σ → ρ.all (lowU n) = true → RE G (x ++ m.take n) (m.take n) H ρ σ
  | _, _, .nil, _ => .nil
  | _, _, .em t, h => .em (RE.low t (by simpa [lowU] using h))
  | _, _, .cns r t, h => by
    rw [List.all_cons, Bool.and_eq_true] at h
    refine .cns ?_ (RE.low t h.2)
    cases r with
    | d r => exact .d (r.keep (keep_sub fun a ha => by
        rcases List.mem_append.mp ha with z | z
        · exact List.mem_append_left _ z
        · exact List.mem_append_right _ (List.mem_of_mem_take z)))
    | @c i a ha =>
      have hi : i < n := by simpa [lowU] using h.1
      exact .c (by rw [List.getElem?_take_of_lt hi]; exact ha)
    | t _ _ => simp [lowU] at h
theorem Rp.low {n : Nat} {ρ : Env} {S : Sto} {σ : St} (p : Rp G x m H ρ S σ) (h : ρ.all (lowU n) = true) : Rp G x (m.take n) H ρ (S.take n) σ := by
  refine ⟨p.env.low h, ⟨by rw [List.length_take, List.length_take, p.sto.len], p.sto.nd.sublist (List.take_sublist _ _), fun b hb => List.mem_append_right _ hb, fun i a c h1 h2 => ?_⟩, p.ex, p.tab⟩
  have hi : i < n := by
    by_cases q : i < n
    · exact q
    · rw [List.getElem?_take_eq_none (by omega)] at h1; cases h1
  rw [List.getElem?_take_of_lt hi] at h1 h2
  obtain ⟨o, q1, q2⟩ := p.sto.at' i a c h1 h2
  exact ⟨o, q1, q2.keep (keep_sub fun a ha => by
    rcases List.mem_append.mp ha with z | z
    · exact List.mem_append_left _ z
    · exact List.mem_append_right _ (List.mem_of_mem_take z)) fun _ _ z => z⟩
theorem Ext.take {S : Sto} {e : List Addr} (E : Ext G m H m' H') (r : RS G e m H S) : Ext G m H (m'.take S.length) H' := by
  obtain ⟨nw, e1, f1⟩ := E.pre
  refine ⟨E.keep, E.tups, E.frzs, E.owns, E.live, ⟨[], ?_, fun _ z => by cases z⟩, E.tab⟩
  rw [e1, ← r.len, List.take_left', List.append_nil]
  rfl
end
section
variable {X : Cx} {T : List (Addr × Str)} {W : WX} {body : List Stmt} {f : MS}
theorem s_scp (dead : List Nat) (hb : PSs X body (tS (gOf X T) W f)) : PSs X body (tS (gOf X T) W (scpM dead f)) := pss_mono hb fun Dn σ H h => by
  obtain ⟨x, m, ρ, S, p, h⟩ := h
  refine ⟨x, m, ρ, S, p, ?_⟩
  unfold scpM at h
  cases q : f ρ S with
  | nx ρ' S' =>
    rw [q] at h
    dsimp only at h
    split at h
    · rename_i hl
      intro m' H' σ' E1 p1
      have p2 : Rp (gOf X T) x m' H' (wipeE ρ' dead) S' σ' := ⟨p1.env.wipe dead, p1.sto, p1.ex, p1.tab⟩
      exact h (m'.take S.length) H' σ' (E1.take p.sto) (p2.low hl)
    · exact h.elim
  | ct ρ' S' =>
    rw [q] at h
    dsimp only at h
    split at h
    · rename_i hl
      intro m' H' σ' E1 p1
      have p2 : Rp (gOf X T) x m' H' (wipeE ρ' dead) S' σ' := ⟨p1.env.wipe dead, p1.sto, p1.ex, p1.tab⟩
      exact h (m'.take S.length) H' σ' (E1.take p.sto) (p2.low hl)
    · exact h.elim
  | rt u S' => rw [q] at h; exact h
  | bk ρ' S' => rw [q] at h; exact h
  | ex e ρ' S' => rw [q] at h; exact h
  | un => rw [q] at h; exact h
end
end Mir

/-! Mir11: list comprehensions. -/
namespace Mir
open PySem PySem.Spec PyProof.Rows L2 RZ
inductive Tg where
  | one (i : Nat) | many (is : List Nat)
def Tg.ix : Tg → List Nat
  | .one i => [i]
  | .many is => is
def setMany : List Nat → List D → Env → Option Env
  | [], [], ρ => some ρ
  | i :: is, d :: ds, ρ => setMany is ds (ρ.set i (some (.d d)))
  | _, _, _ => none
def setT : Tg → D → Env → Option Env
  | .one i, d, ρ => some (ρ.set i (some (.d d)))
  | .many is, .tup ds, ρ => setMany is ds ρ
  | _, _, _ => none
def gNames : List Nat → TGs
  | [] => gNil
  | i :: is => gCons (gName i) (gNames is)
def gT (K : PySem.W.Frag) : Tg → TG
  | .one i => gName i
  | .many is => gTup K is.length (gNames is)
/-- a list made by a comprehension: t tests, f makes -/
def lcL (tg : Tg) (t : MT) (f : ME) (ρ0 : Env) : List D → Sto → O (List D)
  | [], S => .ok [] S
  | d :: ds, S => match setT tg d ρ0 with
    | none => .un
    | some ρ => match t ρ S with
      | .ok true S1 => match f ρ S1 with
        | .ok (.d y) S2 => match lcL tg t f ρ0 ds S2 with
          | .ok ys S3 => .ok (y :: ys) S3
          | _ => .un
        | _ => .un
      | .ok false S1 => lcL tg t f ρ0 ds S1
      | _ => .un
def lcM (it : MI) (tg : Tg) (t : MT) (f : ME) (own : List Nat) : ME := fun ρ S => (it ρ S).bind fun ds S1 =>
  if ds.length ≤ big then match lcL tg t f (wipeE ρ own) ds S1 with
    | .ok ys S2 => .ok (.d (.lst ys)) S2
    | _ => .un
  else .un
def yesM : MT := fun _ S => .ok true S
abbrev WF : WX := fun _ _ _ _ => False

section
variable {G : Gc} {e m x : List Addr} {H : Hp}
theorem wipe_set {own : List Nat} {i : Nat} {o : Option V} : ∀ {σ : St}, i ∈ own → L2.wipe (σ.set i o) own = L2.wipe σ own := by
  intro σ h
  have key : ∀ (own : List Nat) (σ : St) (i : Nat) (o : Option V), L2.wipe (σ.set i o) own = if i ∈ own then L2.wipe σ own else (L2.wipe σ own).set i o := by
    intro own
    induction own with
    | nil => intro σ i o; simp [L2.wipe]
    | cons v vs ih =>
      intro σ i o
      unfold L2.wipe
      rw [ih σ i o]
      by_cases h1 : i ∈ vs
      · rw [if_pos h1, if_pos (List.mem_cons_of_mem _ h1)]
      · rw [if_neg h1]
        by_cases h2 : i = v
        · subst h2
          rw [if_pos List.mem_cons_self, List.set_set]
        · rw [if_neg (by simp [h1, h2]), List.set_comm _ _ h2]
  rw [key, if_pos h]
theorem many_ok : ∀ {is : List Nat} {ds : List D} {vs : List V} {ρ ρ' : Env} {σ : St} {own : List Nat} {Q : St → Hp → Prop}, RVs G e H ds vs → RE G e m H ρ σ → setMany is ds ρ = some ρ' → (∀ i ∈ is, i ∈ own) →
    (∀ σ', RE G e m H ρ' σ' → L2.wipe σ' own = L2.wipe σ own → Q σ' H) → gNames is vs σ H Q
  | [], [], _, ρ, ρ', σ, own, Q, .nil, re, h, _, q => by
    cases h
    exact ⟨rfl, q σ re rfl⟩
  | i :: is, d :: ds, _, ρ, ρ', σ, own, Q, .cons r t, re, h, ho, q =>
    ⟨_, _, rfl, many_ok t (RE.set (.d r) i re) h (fun j hj => ho j (List.mem_cons_of_mem _ hj)) fun σ' re' hw => q σ' re' (by rw [hw, wipe_set (ho i List.mem_cons_self)])⟩
  | [], _ :: _, _, _, _, _, _, _, _, _, h, _, _ => by simp [setMany] at h
  | _ :: _, [], _, _, _, _, _, _, _, _, h, _, _ => by simp [setMany] at h
theorem setMany_len : ∀ {is : List Nat} {ds : List D} {ρ ρ' : Env}, setMany is ds ρ = some ρ' → ds.length = is.length
  | [], [], _, _, _ => rfl
  | i :: is, d :: ds, _, _, h => by simp [setMany_len (is := is) (ds := ds) h]
  | [], _ :: _, _, _, h => by simp [setMany] at h
  | _ :: _, [], _, _, h => by simp [setMany] at h
theorem tg_ok {tg : Tg} {d : D} {v : V} {ρ ρ' : Env} {σ : St} {own : List Nat} {Q : St → Hp → Prop} (r : RV G e H d v) (re : RE G e m H ρ σ) (h : setT tg d ρ = some ρ') (ho : ∀ i ∈ tg.ix, i ∈ own)
    (q : ∀ σ', RE G e m H ρ' σ' → L2.wipe σ' own = L2.wipe σ own → Q σ' H) : gT G.K tg v σ H Q := by
  cases tg with
  | one i =>
    cases h
    exact q _ (RE.set (.d r) i re) (wipe_set (ho i (by simp [Tg.ix])))
  | many is =>
    cases r with
    | tup h1 h2 => exact ⟨_, _, rfl, h1, by rw [← h2.len]; exact setMany_len h, many_ok h2 re h ho q⟩
    | _ => simp [setT] at h
theorem RE.wipeS {e m : List Addr} : ∀ (is : List Nat) {ρ : Env} {σ : St}, RE G e m H ρ σ → RE G e m H (wipeE ρ is) (L2.wipe σ is) := by
  have one : ∀ {ρ : Env} {σ : St} (i : Nat), RE G e m H ρ σ → RE G e m H (ρ.set i none) (σ.set i none) := by
    intro ρ σ i r
    induction r generalizing i with
    | nil => exact .nil
    | em t ih => cases i with
      | zero => exact .em t
      | succ i => exact .em (ih i)
    | cns r t ih => cases i with
      | zero => exact .em t
      | succ i => exact .cns r (ih i)
  have two : ∀ (is : List Nat) (i : Nat) (ρ : Env), (wipeE ρ is).set i none = wipeE (ρ.set i none) is := by
    intro is
    induction is with
    | nil => intro i ρ; rfl
    | cons j is ih =>
      intro i ρ
      unfold wipeE
      rw [ih]
      by_cases h : i = j
      · subst h; rfl
      · rw [List.set_comm _ _ h]
  intro is
  induction is with
  | nil => intro ρ σ r; exact r
  | cons i is ih =>
    intro ρ σ r
    unfold L2.wipe wipeE
    rw [← two]
    exact one i (ih r)
/-- the list that grows is kept apart -/
theorem Keep.hide {D₀ : Addr} {o : HO} (h : H D₀ = none) : Keep G e H (D₀ :: e) (upd H D₀ o) := by
  have ni : ∀ {a : Addr} {u : HO}, H a = some u → a ∉ e → a ∉ D₀ :: e := fun {a u} q n z => by
    rcases List.mem_cons.mp z with z | z
    · rw [z, h] at q; cases q
    · exact n z
  refine ⟨fun a xs q => sqt_new h q, fun a ns q => Sc.ext (G := G) (m := []) (m' := []) (Ext.new h) q, fun a xs q n => ⟨by rw [upd_ne (ne_of_none q h)]; exact q, ni q n⟩, fun a u t ks xs q n r => ⟨by rw [upd_ne (ne_of_none q h)]; exact q, ni q n, r.ext fun _ _ z => sqt_new h z⟩⟩
theorem Keep.grow {D₀ : Addr} {acc acc' : List V} (h : H D₀ = some (.lst acc)) (hd : D₀ ∈ e) : Keep G e H e (upd H D₀ (.lst acc')) := by
  have ne : ∀ {a : Addr}, a ∉ e → a ≠ D₀ := fun {a} n z => n (z ▸ hd)
  refine ⟨fun a xs q => ?_, fun a xs q => ?_, fun a xs q n => ⟨by rw [upd_ne (ne n)]; exact q, n⟩, fun a u t ks xs q n r => ⟨by rw [upd_ne (ne n)]; exact q, n, r.ext fun b ys z => ?_⟩⟩
  · rcases q with (q | ⟨o, q⟩) | q
    · exact .inl (.inl (by rw [upd_ne (fun z => by rw [z, h] at q; cases q)]; exact q))
    · exact .inl (.inr ⟨o, by rw [upd_ne (fun z => by rw [z, h] at q; cases q)]; exact q⟩)
    · exact .inr q
  · rcases q with ⟨o, q⟩ | q
    · exact .inl ⟨o, by rw [upd_ne (fun z => by rw [z, h] at q; cases q)]; exact q⟩
    · exact .inr q
  · rcases z with (q | ⟨o, q⟩) | q
    · exact .inl (.inl (by rw [upd_ne (fun z => by rw [z, h] at q; cases q)]; exact q))
    · exact .inl (.inr ⟨o, by rw [upd_ne (fun z => by rw [z, h] at q; cases q)]; exact q⟩)
    · exact .inr q
theorem RW.keep' {m : List Addr} {e' : List Addr} {H' : Hp} (k : Keep G e H e' H') : ∀ {us : List (D ⊕ Nat)} {vs : List V}, RW G e m H us vs → RW G e' m H' us vs
  | _, _, .nil => .nil
  | _, _, .d r t => .d (r.keep k) (RW.keep' k t)
  | _, _, .c h t => .c h (RW.keep' k t)
theorem RE.keep {m : List Addr} {e' : List Addr} {H' : Hp} (k : Keep G e H e' H') : ∀ {ρ : Env} {σ : St}, RE G e m H ρ σ → RE G e' m H' ρ σ
  | _, _, .nil => .nil
  | _, _, .em t => .em (RE.keep k t)
  | _, _, .cns r t => .cns (by cases r with
    | d r => exact .d (r.keep k)
    | c h => exact .c h
    | t h r => exact .t (k.tup _ _ h) (r.keep' k)) (RE.keep k t)
theorem RS.keep {m : List Addr} {e' : List Addr} {H' : Hp} {S : Sto} (k : Keep G e H e' H') (r : RS G e m H S) (hi : ∀ b ∈ m, b ∈ e') (ha : ∀ a ∈ m, H' a = H a) (ho : ∀ b y, H b = some (.own y) → H' b = some (.own y)) : RS G e' m H' S :=
  ⟨r.len, r.nd, hi, fun i a c h1 h2 => by
    obtain ⟨o, q1, q2⟩ := r.at' i a c h1 h2
    exact ⟨o, by rw [ha a (List.mem_of_getElem? h1)]; exact q1, q2.keep k ho⟩⟩
theorem Ext.grow {m' : List Addr} {H0 H' : Hp} {D₀ : Addr} {acc acc' : List V} (E : Ext G m H0 m' H') (h0 : H0 D₀ = none) (h : H' D₀ = some (.lst acc)) : Ext G m H0 m' (upd H' D₀ (.lst acc')) := by
  have ne : ∀ {b : Addr} {o : HO}, H0 b = some o → b ≠ D₀ := fun {b o} q z => by rw [z, h0] at q; cases q
  refine ⟨fun b o q n t => by rw [upd_ne (ne q)]; exact E.keep b o q n t, fun b xs q => by rw [upd_ne (ne q)]; exact E.tups b xs q, fun b o u q => by rw [upd_ne (ne q)]; exact E.frzs b o u q,
    fun b a q => by rw [upd_ne (ne q)]; exact E.owns b a q, fun b q => by
      obtain ⟨o, q1, q2⟩ := E.live b q
      by_cases z : b = D₀
      · rw [z]; exact ⟨_, upd_same, fun ps z => by cases z⟩
      · exact ⟨o, by rw [upd_ne z]; exact q1, q2⟩, E.pre, fun t p hp => ?_⟩
  obtain ⟨ps, g1, g2, g3⟩ := E.tab t p hp
  refine ⟨ps, by rw [upd_ne (fun z => by rw [z, h] at g1; cases g1)]; exact g1, g2, fun pos cv hc => ?_⟩
  obtain ⟨c, g4, g5⟩ := g3 pos cv hc
  exact ⟨c, g4, by rw [upd_ne (fun z => by rw [z, h] at g5; cases g5)]; exact g5⟩
end

theorem wipe_idem (own : List Nat) : ∀ σ : St, L2.wipe (L2.wipe σ own) own = L2.wipe σ own := by
  have key : ∀ (vs own : List Nat) (σ : St), (∀ i ∈ vs, i ∈ own) → L2.wipe (L2.wipe σ vs) own = L2.wipe σ own := by
    intro vs
    induction vs with
    | nil => intro own σ _; rfl
    | cons v vs ih =>
      intro own σ h
      show L2.wipe ((L2.wipe σ vs).set v none) own = _
      rw [wipe_set (h v List.mem_cons_self)]
      exact ih own σ fun i hi => h i (List.mem_cons_of_mem _ hi)
  exact fun σ => key own own σ fun _ h => h
section
variable {X : Cx} {T : List (Addr × Str)} {W : WX}
theorem ts_nil : PTs X [] (tT (gOf X T) W yesM) := ⟨fun pins s σ H Q I h => pts_nil.run pins s σ H Q I (by
  obtain ⟨x, m, ρ, S, p, h⟩ := h
  exact h m H Ext.refl p.sto)⟩
theorem ts_one {c : Expr} {t : MT} (h : PT X c (tT (gOf X T) W t)) : PTs X [c] (tT (gOf X T) W t) := pts_one h
theorem lc_red {fi : MI} {t : MT} {f : ME} {tgt : Tg} {own : List Nat} (ho : ∀ i ∈ tgt.ix, i ∈ own) {σ : St} {H : Hp} {Q : VK} (h : tE (gOf X T) W (lcM fi tgt t f own) σ H Q) :
    tLc (tI (gOf X T) W fi) (gT X.K tgt) (tT (gOf X T) WF t) (tE (gOf X T) WF f) own σ H Q := by
  obtain ⟨x, m, ρ, S, p, h⟩ := h
  refine ⟨x, m, ρ, S, p, (Post.bind h).mono fun ds S1 m1 H1 E1 R1 ⟨_, _, h1⟩ J hJ => fun D₀ hD => ?_⟩
  have p1 := p.ext E1 R1
  split at h1
  case isFalse => exact h1.elim
  case isTrue hbig =>
  cases hL : lcL tgt t f (wipeE ρ own) ds S1 with
  | un => rw [hL] at h1; exact h1.elim
  | ex ee S' => rw [hL] at h1; exact h1.elim
  | ok ys Sf =>
    rw [hL] at h1
    refine ⟨fun i k H2 => ∃ m2 S2 acc vacc rest, k = ds.length - i ∧ i ≤ ds.length ∧ Ext (gOf X T) m1 H1 m2 H2 ∧ Rp (gOf X T) (D₀ :: x) m2 H2 (wipeE ρ own) S2 (L2.wipe σ own) ∧ H2 D₀ = some (.lst vacc) ∧
      RVs (gOf X T) (D₀ :: x ++ m2) H2 acc vacc ∧ vacc.length ≤ i ∧ lcL tgt t f (wipeE ρ own) (ds.drop i) S2 = .ok rest Sf ∧ ys = acc ++ rest ∧ D₀ ∉ m2,
      ⟨ds.length, m1, S1, [], [], ys, by simp, Nat.zero_le _, Ext.new hD, ⟨(RE.wipeS own p1.env).keep (Keep.hide hD), R1.keep (Keep.hide hD) (fun b hb => List.mem_cons_of_mem _ (List.mem_append_right _ hb)) (fun a ha => by
          obtain ⟨u, q⟩ := R1.live ha
          rw [upd_ne (ne_of_none q hD)]) (fun b y q => by rw [upd_ne (ne_of_none q hD)]; exact q), fun b hb => ?_, p1.tab.ext fun b u q => by rw [upd_ne (ne_of_none q hD)]; exact q⟩, upd_same, .nil, Nat.zero_le _, by rw [List.drop_zero]; exact hL, rfl, fun z => by
          obtain ⟨u, q⟩ := R1.live z
          rw [hD] at q; cases q⟩, ?_⟩
    · rcases List.mem_cons.mp hb with z | z
      · rw [z]; exact ⟨_, upd_same, fun ps z => by cases z⟩
      · obtain ⟨u, q, qn⟩ := p1.ex b z
        exact ⟨u, by rw [upd_ne (ne_of_none q hD)]; exact q, qn⟩
    rintro i k H2 ⟨m2, S2, acc, vacc, rest, rfl, hi, E2, p2, hd2, r2, hv, hl, hy, nD⟩
    have hY := hJ (D₀ :: x) m2 H2 (fun b hb => by
      rcases List.mem_cons.mp hb with z | z
      · exact .inr (by rw [z]; exact hD)
      · exact .inl z) E2 p2.trk i
    by_cases hlt : i < ds.length
    · obtain ⟨hgo, hyl⟩ := hY.1 ds[i] (List.getElem?_eq_getElem hlt)
      rw [List.drop_eq_getElem_cons hlt] at hl
      simp only [lcL] at hl
      refine .inr ⟨hgo, fun H3 => ∃ m3 S3 acc vacc rest, Ext (gOf X T) m1 H1 m3 H3 ∧ Rp (gOf X T) (D₀ :: x) m3 H3 (wipeE ρ own) S3 (L2.wipe σ own) ∧ H3 D₀ = some (.lst vacc) ∧
        RVs (gOf X T) (D₀ :: x ++ m3) H3 acc vacc ∧ vacc.length ≤ i + 1 ∧ lcL tgt t f (wipeE ρ own) (ds.drop (i + 1)) S3 = .ok rest Sf ∧ ys = acc ++ rest ∧ D₀ ∉ m3,
        fun H3 ⟨m3, S3, acc, vacc, rest, a1, a2, a3, a4, a5, a6, a7, a8⟩ => ⟨ds.length - (i + 1), by omega, m3, S3, acc, vacc, rest, rfl, hlt, a1, a2, a3, a4, a5, a6, a7, a8⟩, fun v H3 yv => ?_⟩
      obtain ⟨E3, k3, r3⟩ := hyl v H3 yv
      have R3 : RS (gOf X T) (D₀ :: x ++ m2) m2 H3 S2 := p2.sto.stay E3 fun a ha => k3 a ha (by obtain ⟨o, q⟩ := p2.sto.live ha; rw [q]; simp)
      have p3 := p2.ext E3 R3
      cases hs : setT tgt ds[i] (wipeE ρ own) with
      | none => rw [hs] at hl; cases hl
      | some ρ' =>
        rw [hs] at hl
        dsimp only at hl
        refine tg_ok r3 p3.env hs ho fun σ' re' hw => ⟨by rw [hw, wipe_idem], ?_⟩
        have q3 : Rp (gOf X T) (D₀ :: x) m2 H3 ρ' S2 σ' := ⟨re', R3, p3.ex, p3.tab⟩
        have nD' : ∀ {m m' : List Addr} {H H' : Hp}, Ext (gOf X T) m H m' H' → D₀ ∉ m → Nt H D₀ → D₀ ∉ m' := fun E n q z => by
          obtain ⟨nw, e1, f1⟩ := E.pre
          rw [e1] at z
          rcases List.mem_append.mp z with z | z
          · exact n z
          · exact f1 _ z q
        have d3 : H3 D₀ = some (.lst vacc) := E3.keep _ _ hd2 nD (fun ps z => by cases z)
        refine ⟨D₀ :: x, m2, ρ', S2, q3, ?_⟩
        cases ht : t ρ' S2 with
        | un => rw [ht] at hl; cases hl
        | ex ee S' => rw [ht] at hl; cases hl
        | ok b S3 =>
          rw [ht] at hl
          intro m4 H4 E4 R4
          have q4 := q3.ext E4 R4
          have d4 : H4 D₀ = some (.lst vacc) := E4.keep _ _ d3 nD (fun ps z => by cases z)
          have n4 := nD' E4 nD ⟨_, d3, fun ps z => by cases z⟩
          cases b with
          | false =>
            refine iteF ⟨m4, S3, acc, vacc, rest, (E2.trans E3).trans E4, ⟨(p3.ext E4 R4).env, R4, (p3.ext E4 R4).ex, (p3.ext E4 R4).tab⟩, d4, r2.keep ((E3.trans E4).kp), by omega, hl, hy, n4⟩
          | true =>
            refine iteT ⟨D₀ :: x, m4, ρ', S3, q4, ?_⟩
            dsimp only at hl
            cases hf : f ρ' S3 with
            | un => rw [hf] at hl; cases hl
            | ex ee S' => rw [hf] at hl; cases hl
            | ok u S4 =>
              rw [hf] at hl
              cases u with
              | c j => cases hl
              | t j => cases hl
              | d y =>
                dsimp only at hl
                cases hr : lcL tgt t f (wipeE ρ own) (ds.drop (i + 1)) S4 with
                | un => rw [hr] at hl; cases hl
                | ex ee S' => rw [hr] at hl; cases hl
                | ok rest' S5 =>
                  rw [hr] at hl
                  cases hl
                  intro m5 H5 E5 R5 w rw'
                  have d5 : H5 D₀ = some (.lst vacc) := E5.keep _ _ d4 n4 (fun ps z => by cases z)
                  have n5 := nD' E5 n4 ⟨_, d4, fun ps z => by cases z⟩
                  have E35 := (E3.trans E4).trans E5
                  have p5 := p2.ext E35 R5
                  have kg : Keep (gOf X T) (D₀ :: x ++ m5) H5 (D₀ :: x ++ m5) (upd H5 D₀ (.lst (vacc ++ [w]))) := Keep.grow d5 List.mem_cons_self
                  refine ⟨vacc, d5, Nat.lt_of_le_of_lt hv (Nat.lt_of_lt_of_le hlt (big_ok hbig)), m5, S4, acc ++ [y], vacc ++ [w], rest', (E2.trans E35).grow hD d5, ⟨p5.env.keep kg, R5.keep kg (fun b hb => List.mem_append_right _ hb) (fun a ha => upd_ne fun z => n5 (z ▸ ha)) (fun b y q => by
                      rw [upd_ne (fun z => by rw [z, d5] at q; cases q)]; exact q), fun b hb => ?_, ?_⟩, upd_same, ?_, by simp; omega, hr, by rw [hy]; simp, n5⟩
                  · by_cases z : b = D₀
                    · rw [z]; exact ⟨_, upd_same, fun ps z => by cases z⟩
                    · obtain ⟨o, q, qn⟩ := p5.ex b hb
                      exact ⟨o, by rw [upd_ne z]; exact q, qn⟩
                  · exact ((E2.trans E35).grow hD d5).tab p1.tab
                  · refine (RVs.append (r2.keep E35.kp) (.cons ?_ .nil)).keep kg
                    cases rw' with
                    | d r => exact r
    · have e : i = ds.length := by omega
      rw [e, List.drop_length] at hl
      cases hl
      rw [List.append_nil] at hy
      subst hy
      refine .inl ⟨hY.2 (by omega), ?_⟩
      have ks : Keep (gOf X T) (D₀ :: x ++ m2) H2 (x ++ m2) H2 := keep_sub fun a ha => List.mem_cons_of_mem _ ha
      refine h1 m2 H2 E2 (p2.sto.keep ks (fun b hb => List.mem_append_right _ hb) (fun _ _ => rfl) fun _ _ q => q) _ (.d (.lst hd2 (fun z => ?_) (r2.keep ks)))
      rcases List.mem_append.mp z with z | z
      · obtain ⟨o, q, _⟩ := p1.ex _ z
        rw [hD] at q; cases q
      · exact nD z
variable {elt tg iter : Expr} {ifs : List Expr} {scope : Scope} {own : List (Str × Nat)} {pos spos : Pos} {fi : MI} {t : MT} {f : ME}
theorem e_lc (tgt : Tg) (own : List (Str × Nat)) (hc : X.calm = true) (hN : X.N.Nodup) (hi : PI X tg iter (tI (gOf X T) W fi)) (ok : BlkOk X.N X.env.scope scope own)
    (hg : ∀ (s : Shared) (H : Hp) (C : Addr) (cl : List (Str × Addr)) (fp : List Addr), PG (X.blk s H scope (compEnvC scope cl C X.env) fp) tg (gT X.K tgt))
    (ht : ∀ (s : Shared) (H : Hp) (C : Addr) (cl : List (Str × Addr)) (fp : List Addr), Takes (X.blk s H scope (compEnvC scope cl C X.env) fp) WF → PTs (X.blk s H scope (compEnvC scope cl C X.env) fp) ifs (tT (gOf (X.blk s H scope (compEnvC scope cl C X.env) fp) T) WF t))
    (he : ∀ (s : Shared) (H : Hp) (C : Addr) (cl : List (Str × Addr)) (fp : List Addr), Takes (X.blk s H scope (compEnvC scope cl C X.env) fp) WF → PE (X.blk s H scope (compEnvC scope cl C X.env) fp) elt (tE (gOf (X.blk s H scope (compEnvC scope cl C X.env) fp) T) WF f))
    (ho : ∀ i ∈ tgt.ix, i ∈ own.map (·.2)) (hs : ∀ x, foldedSetIterable iter X.env x = pure x := by intro _; rfl) : PE X (.ListComp elt [⟨tg, iter, ifs, 0⟩] scope pos) (tE (gOf X T) W (lcM fi tgt t f (own.map (·.2)))) :=
  pe_mono (pe_lc hc hN hi ok hg (fun s H C cl fp => ht s H C cl fp takes0) (fun s H C cl fp => he s H C cl fp takes0) hs) fun σ H Q h => lc_red ho h
theorem s_lc (i : Nat) (tgt : Tg) (own : List (Str × Nat)) {y : Str} {py : Pos} (hc : X.calm = true) (hN : X.N.Nodup) (hi : PI X tg iter (tI (gOf X T) W fi)) (ok : BlkOk X.N X.env.scope scope own)
    (hg : ∀ (s : Shared) (H : Hp) (C : Addr) (cl : List (Str × Addr)) (fp : List Addr), PG (X.blk s H scope (compEnvC scope cl C X.env) fp) tg (gT X.K tgt))
    (ht : ∀ (s : Shared) (H : Hp) (C : Addr) (cl : List (Str × Addr)) (fp : List Addr), Takes (X.blk s H scope (compEnvC scope cl C X.env) fp) WF → PTs (X.blk s H scope (compEnvC scope cl C X.env) fp) ifs (tT (gOf (X.blk s H scope (compEnvC scope cl C X.env) fp) T) WF t))
    (he : ∀ (s : Shared) (H : Hp) (C : Addr) (cl : List (Str × Addr)) (fp : List Addr), Takes (X.blk s H scope (compEnvC scope cl C X.env) fp) WF → PE (X.blk s H scope (compEnvC scope cl C X.env) fp) elt (tE (gOf (X.blk s H scope (compEnvC scope cl C X.env) fp) T) WF f))
    (ho : ∀ i ∈ tgt.ix, i ∈ own.map (·.2)) (hsw : swapsWith (.ListComp elt [⟨tg, iter, ifs, 0⟩] scope pos) (some (.Name y py)) spos.line X.env = pure true) (hy : X.N[i]? = some y := by rfl) (hyl : X.env.scope.names.lookup y = some .local := by rfl) (hs : ∀ x, foldedSetIterable iter X.env x = pure x := by intro _; rfl) :
    PS X (.Assign [.Name y py] (.ListComp elt [⟨tg, iter, ifs, 0⟩] scope pos) spos) (tS (gOf X T) W (asgM (lcM fi tgt t f (own.map (·.2))) (namG i))) :=
  ps_mono (ps_setLc hc hN hy hyl hsw hi ok hg (fun s H C cl fp => ht s H C cl fp takes0) (fun s H C cl fp => he s H C cl fp takes0) hs) fun Dn σ H h => by
    refine lc_red (W := W) (f := f) (t := t) ho ?_
    obtain ⟨x, m, ρ, S, p, h⟩ := h
    refine ⟨x, m, ρ, S, p, (Post.toS h p).mono fun u S1 m1 H1 E1 R1 ⟨_, _, h1⟩ v rv => ?_⟩
    have p1 := p.ext E1 R1
    exact h1 m1 H1 _ Ext.refl ⟨p1.env.set rv i, p1.sto, p1.ex, p1.tab⟩
end
end Mir

/-! Mir12: several names at once; raise. -/
namespace Mir
open PySem PySem.Spec PyProof.Rows L2 RZ
def setUs : List Nat → List U → Env → Env
  | i :: is, u :: us, ρ => setUs is us (ρ.set i (some u))
  | _, _, ρ => ρ
def parsM (is : List Nat) (fs : List ME) : MS := fun ρ S => match argsM fs ρ S with
  | .ok us S' => if us.length = is.length then .nx (setUs is us ρ) S' else .un
  | .ex e S' => .ex e ρ S'
  | .un => .un
section
variable {G : Gc} {e m : List Addr} {H : Hp}
theorem us_ok : ∀ {is : List Nat} {us : List U} {vs : List V} {ρ : Env} {σ : St} {Q : St → Hp → Prop}, RUs G e m H us vs → RE G e m H ρ σ → us.length = is.length → (∀ σ', RE G e m H (setUs is us ρ) σ' → Q σ' H) → gNames is vs σ H Q
  | [], [], _, ρ, σ, Q, .nil, re, _, q => ⟨rfl, q σ re⟩
  | i :: is, u :: us, _, ρ, σ, Q, .cons r t, re, h, q => ⟨_, _, rfl, us_ok t (RE.set r i re) (by simpa using h) q⟩
  | [], _ :: _, _, _, _, _, _, _, h, _ => by simp at h
  | _ :: _, [], _, _, _, _, _, _, h, _ => by simp at h
end
section
variable {X : Cx} {T : List (Addr × Str)} {W : WX} {es ts : List Expr} {fs : List ME} {is : List Nat} {pos pt pt2 : Pos} {kt k2 : Nat}
theorem gns_nil : PGs X [] (gNames []) := pgs_nil
theorem gns_cons {i : Nat} {e : Expr} (h1 : PG X e (gName i)) (h2 : PGs X es (gNames is)) (hs : (assignEach (e :: es) X.env).map (·.2) = assign e X.env :: (assignEach es X.env).map (·.2) := by rfl) : PGs X (e :: es) (gNames (i :: is)) := pgs_cons h1 h2 hs
/-- a tuple of names, a tuple of values: no exchange -/
theorem s_par (is : List Nat) (hc : X.calm = true) (ha : PA X es (tA (gOf X T) W (argsM fs))) (hg : PGs X ts (gNames is)) (hl : Nat.ble fs.length 1000 = true := by rfl) (hn : (assignEach ts X.env).length = is.length := by rfl) (hst : (assignEach ts X.env).findIdx? (·.1) = none := by rfl)
    (hs : swapsWithSole [.Tuple ts kt pt] (.Tuple es k2 pt2) pos.line X.env = pure false := by rfl) (hw : swappedStores [.Tuple ts kt pt] (.Tuple es k2 pt2) X.env = pure none := by rfl)
    (h1 : (assignEach [.Tuple ts kt pt] X.env).map (·.2) = [assign (.Tuple ts kt pt) X.env] := by rfl) : PS X (.Assign [.Tuple ts kt pt] (.Tuple es k2 pt2) pos) (tS (gOf X T) W (parsM is fs)) := ps_mono (ps_asg (pe_tup ha) (pg_tup hc hg hn hst) hs hw h1) fun Dn σ H h => by
  obtain ⟨x, m, ρ, S, p, h⟩ := h
  cases q : argsM fs ρ S with
  | un => simp only [parsM, q] at h; exact h.elim
  | ex ee S' =>
    refine ⟨x, m, ρ, S, p, ?_⟩
    simp only [parsM, q] at h
    rw [q]
    exact fun m' H' cls d E R rx => h m' H' σ cls d E (p.ext E R) rx
  | ok us S' =>
    refine ⟨x, m, ρ, S, p, ?_⟩
    rw [q]
    intro m1 H1 E1 R1 vs rvs
    have p1 := p.ext E1 R1
    have hn' : vs.length = fs.length := by rw [← RUs.length rvs, argsM_len q]
    refine ⟨Nat.le_of_lt (small1000 (by rw [hn']; exact Nat.le_of_ble_eq_true hl)), fun a np => ?_⟩
    simp only [parsM, q] at h
    split at h
    · rename_i hlen
      have E2 : Ext (gOf X T) m1 H1 m1 (upd H1 a (.tup vs)) := Ext.new np
      have p2 := p1.ext E2 (R1.new np)
      refine ⟨a, vs, rfl, .inl (.inl upd_same), by rw [← RUs.length rvs]; exact hlen, us_ok (rvs.ext E2) p2.env hlen fun σ' re => ?_⟩
      exact h m1 _ σ' (E1.trans E2) ⟨re, p2.sto, p2.ex, p2.tab⟩
    · exact h.elim
/-- two local names on a line: the stores are exchanged -/
theorem s_par2 (i j : Nat) {x y : Str} {a b : Expr} {px py : Pos} (hc : X.calm = true) (hN : X.N.Nodup) (ha : PA X [a, b] (tA (gOf X T) W (argsM fs))) (hij : i ≠ j := by decide) (hi : X.N[i]? = some x := by rfl) (hj : X.N[j]? = some y := by rfl)
    (hx : X.env.scope.names.lookup x = some .local := by rfl) (hy : X.env.scope.names.lookup y = some .local := by rfl)
    (hw : swappedStores [.Tuple [.Name x px, .Name y py] kt pt] (.Tuple [a, b] k2 pt2) X.env = pure (some [x, y]) := by rfl)
    (hs : swapsWithSole [.Tuple [.Name x px, .Name y py] kt pt] (.Tuple [a, b] k2 pt2) pos.line X.env = pure false := by rfl) :
    PS X (.Assign [.Tuple [.Name x px, .Name y py] kt pt] (.Tuple [a, b] k2 pt2) pos) (tS (gOf X T) W (parsM [i, j] fs)) := ps_mono (ps_par hc hN hi hj hij hx hy ha hw hs) fun Dn σ H h => by
  obtain ⟨x, m, ρ, S, p, h⟩ := h
  cases q : argsM fs ρ S with
  | un => simp only [parsM, q] at h; exact h.elim
  | ex ee S' =>
    refine ⟨x, m, ρ, S, p, ?_⟩
    simp only [parsM, q] at h
    rw [q]
    exact fun m' H' cls d E R rx => h m' H' σ cls d E (p.ext E R) rx
  | ok us S' =>
    refine ⟨x, m, ρ, S, p, ?_⟩
    rw [q]
    intro m1 H1 E1 R1 vs rvs
    have p1 := p.ext E1 R1
    simp only [parsM, q] at h
    split at h
    · rename_i hlen
      cases rvs with
      | nil => simp at hlen
      | cons r t => cases t with
        | nil => simp at hlen
        | cons r' t => cases t with
          | nil => exact ⟨_, _, rfl, h m1 H1 _ E1 ⟨RE.set r' j (RE.set r i p1.env), p1.sto, p1.ex, p1.tab⟩⟩
          | cons _ _ => simp at hlen
    · exact h.elim
def tPar3 (i j k : Nat) (ta : TA) : TS := fun D σ H => ta σ H fun vs H1 => ∃ v w z, vs = [v, w, z] ∧ D.nx (((σ.set i (some v)).set j (some w)).set k (some z)) H1
theorem ps_par3 {i j k : Nat} {x y z : Str} {a b c : Expr} {ta : TA} {px py pz : Pos} (hc : X.calm = true) (hN : X.N.Nodup) (hi : X.N[i]? = some x) (hj : X.N[j]? = some y) (hk : X.N[k]? = some z) (hij : i ≠ j) (hik : i ≠ k) (hjk : j ≠ k)
    (hx : X.env.scope.names.lookup x = some .local) (hy : X.env.scope.names.lookup y = some .local) (hz : X.env.scope.names.lookup z = some .local) (ha : PA X [a, b, c] ta)
    (hw : swappedStores [.Tuple [.Name x px, .Name y py, .Name z pz] kt pt] (.Tuple [a, b, c] k2 pt2) X.env = pure (some [x, y, z]))
    (hs : swapsWithSole [.Tuple [.Name x px, .Name y py, .Name z pz] kt pt] (.Tuple [a, b, c] k2 pt2) pos.line X.env = pure false) :
    PS X (.Assign [.Tuple [.Name x px, .Name y py, .Name z pz] kt pt] (.Tuple [a, b, c] k2 pt2) pos) (tPar3 i j k ta) := ⟨fun pins s σ H D I h => by
  rw [exec_Assign_arm]
  refine wpAny_bind (wpAny_standAt ?_)
  rw [hs]
  refine wpAny_bind (wpAny_pure ?_)
  rw [if_neg (by decide)]
  refine wpAny_bind (Tuple_ (thn (ha.run _ pins s σ H _ I h) fun us s1 ⟨vs, H1, I1, r1, q1⟩ => ?_))
  obtain ⟨v, w, t, e1, q1⟩ := q1
  subst e1
  obtain ⟨u1, u2, u3, rfl, r2, r3, r4⟩ : ∃ u1 u2 u3, us = [u1, u2, u3] ∧ RelV v u1 ∧ RelV w u2 ∧ RelV t u3 := by
    cases r1 with
    | cons a1 b1 => cases b1 with
      | cons a2 b2 => cases b2 with
        | cons a3 b3 => cases b3; exact ⟨_, _, _, rfl, a1, a2, a3⟩
  refine wpAny_newObj_type ?_ (by show 3 ≤ sizeLine; decide)
  have I2 : Inv X pins σ H1 { s1 with heap := s1.heap.push { cls := .type "tuple", data := .seq [u1, u2, u3].toArray } } := I1.kept (t' := s1.toks) fun b o e => Heap.get?_push_of_some _ e
  rw [hw]
  refine wpAny_bind (wpAny_pure ?_)
  show wpAny (model X.prog X.w) X.A (do rule "assign.swapped-stores"; let items ← unpackItems (.ref s1.heap.objs.size) 3 none; assignInOrder [fun v => bindName X.env z v, fun v => bindName X.env y v, fun v => bindName X.env x v] items.reverse; pure Flow.next) _ _ _
  refine wpAny_bind (wpAny_rule (wpAny_bind (unpackItems_tuple (items := #[u1, u2, u3]) (I.ok.hd hc) (IsTup.new s1.heap _) fun h' hx' => ?_)))
  have I3 := I2.kept (h' := h') (t' := s1.toks) fun b o e => hx' b o (Nat.ne_of_lt (Heap.lt_size e)) e
  show wpAny _ _ (assignInOrder [fun v => bindName X.env z v, fun v => bindName X.env y v, fun v => bindName X.env x v] [u3, u2, u1] >>= fun _ => pure Flow.next) _ _ _
  refine wpAny_bind (assignInOrder_cons (wpAny_bindName (store_ok I3 hN hk (.inl hz) r4 (fun s2 I4 => ?_) (.inr hz))))
  refine assignInOrder_cons (wpAny_bindName (store_ok I4 hN hj (.inl hy) r3 (fun s3 I5 => ?_) (.inr hy)))
  refine assignInOrder_cons (wpAny_bindName (store_ok I5 hN hi (.inl hx) r2 (fun s4 I6 => assignInOrder_nil (wpAny_pure ?_)) (.inr hx)))
  rw [List.set_comm _ _ (Ne.symm hjk), List.set_comm _ _ (Ne.symm hik), List.set_comm _ _ (Ne.symm hij)] at I6
  exact ⟨_, H1, I6, q1⟩⟩
theorem s_par3 (i j k : Nat) {x y z : Str} {a b c : Expr} {px py pz : Pos} (hc : X.calm = true) (hN : X.N.Nodup) (ha : PA X [a, b, c] (tA (gOf X T) W (argsM fs))) (hij : i ≠ j := by decide) (hik : i ≠ k := by decide) (hjk : j ≠ k := by decide) (hi : X.N[i]? = some x := by rfl) (hj : X.N[j]? = some y := by rfl) (hk : X.N[k]? = some z := by rfl)
    (hx : X.env.scope.names.lookup x = some .local := by rfl) (hy : X.env.scope.names.lookup y = some .local := by rfl) (hz : X.env.scope.names.lookup z = some .local := by rfl)
    (hw : swappedStores [.Tuple [.Name x px, .Name y py, .Name z pz] kt pt] (.Tuple [a, b, c] k2 pt2) X.env = pure (some [x, y, z]) := by rfl)
    (hs : swapsWithSole [.Tuple [.Name x px, .Name y py, .Name z pz] kt pt] (.Tuple [a, b, c] k2 pt2) pos.line X.env = pure false := by rfl) :
    PS X (.Assign [.Tuple [.Name x px, .Name y py, .Name z pz] kt pt] (.Tuple [a, b, c] k2 pt2) pos) (tS (gOf X T) W (parsM [i, j, k] fs)) := ps_mono (ps_par3 hc hN hi hj hk hij hik hjk hx hy hz ha hw hs) fun Dn σ H h => by
  obtain ⟨x, m, ρ, S, p, h⟩ := h
  cases q : argsM fs ρ S with
  | un => simp only [parsM, q] at h; exact h.elim
  | ex ee S' =>
    refine ⟨x, m, ρ, S, p, ?_⟩
    simp only [parsM, q] at h
    rw [q]
    exact fun m' H' cls d E R rx => h m' H' σ cls d E (p.ext E R) rx
  | ok us S' =>
    refine ⟨x, m, ρ, S, p, ?_⟩
    rw [q]
    intro m1 H1 E1 R1 vs rvs
    have p1 := p.ext E1 R1
    simp only [parsM, q] at h
    split at h
    · rename_i hlen
      cases rvs with
      | nil => simp at hlen
      | cons r t => cases t with
        | nil => simp at hlen
        | cons r' t => cases t with
          | nil => simp at hlen
          | cons r'' t => cases t with
            | nil => exact ⟨_, _, _, rfl, h m1 H1 _ E1 ⟨RE.set r'' k (RE.set r' j (RE.set r i p1.env)), p1.sto, p1.ex, p1.tab⟩⟩
            | cons _ _ => simp at hlen
    · exact h.elim

/-! ### raise X("..") of a class without its own __init__ -/
structure XC (G : Gc) (x : Str) : Prop where
  ex : ∃ C, G.mg x = some (.ref C) ∧ PySem.W.excIn G.K C [.type "ValueError", .type "Exception", .type "BaseException", .type "object"] "ValueError.__new__" = true ∧ PySem.W.keepIn G.K (.ref C) = true ∧
    PySem.W.subIn G.K (.ref C) (.type "BaseException") = some true ∧ PySem.W.typeIn G.K (.ref C) = some (.type "type")
theorem s_rai {x m : Str} {j : Nat} {p p2 ps pos : Pos} (h : XC (gOf X T) x) (hc : X.calm = true) (tk : Takes X W) (hg : Gl X x := by rfl) (hdb : (x == ("__debug__" : Str)) = false := by decide) :
    PS X (.Raise (some (.Call (.Name x p) [.Constant (.str m) j p2] [] ps)) none pos) (tS (gOf X T) W (raiM { cls := x })) := by
  obtain ⟨C, h1, h2, h3, h4, h5⟩ := h.ex
  refine ps_mono (ps_raise hc tk (pmk_own PySem.F.excBase_ValueError h2 h1 h3 (raises_own h4 h5) hg hdb)) fun Dn σ H h => ?_
  obtain ⟨y, m, ρ, S, p, h⟩ := h
  exact h m H σ (.ref C) none Ext.refl p ⟨C, rfl, h1, trivial⟩
end
end Mir

/-! Mir13: cells that are changed: o[i] = v, append; dicts that are made. -/
namespace Mir
open PySem PySem.Spec PyProof.Rows L2 RZ
def dputV : List NestedKey → List D → NestedKey → D → List D
  | k :: ks, v :: vs, x, d => if k = x then d :: vs else v :: dputV ks vs x d
  | _, vs, _, _ => vs
def dput (ks : List NestedKey) (vs : List D) (x : NestedKey) (d : D) : List NestedKey × List D := if x ∈ ks then (ks, dputV ks vs x d) else (ks ++ [x], vs ++ [d])
def setC : Cell → D → D → Option Cell
  | .lst xs, .int i, d => (ixN xs.length i).map fun j => .lst (xs.set j d)
  | .dic false ks vs, .int i, d => if ks.length < big then some (.dic false (dput ks vs (.num i) d).1 (dput ks vs (.num i) d).2) else none
  | .dic false ks vs, .str x, d => if ks.length < big then some (.dic false (dput ks vs (.text x) d).1 (dput ks vs (.text x) d).2) else none
  | .dic true ks vs, .tup xs, d => match toN (.tup xs) with
    | some k => if k.depth ≤ 8 ∧ ks.length < big then some (.dic true (dput ks vs k d).1 (dput ks vs k d).2) else none
    | none => none
  | _, _, _ => none
section
variable {G : Gc} {e m x : List Addr} {H : Hp}
theorem Ext.upd1 {a : Addr} {o o' : HO} (h : H a = some o) (h1 : ∀ xs, o ≠ .tup xs) (h2 : ∀ b u, o ≠ .frz b u) (h3 : ∀ b, o ≠ .own b) (h4 : ∀ ps, o ≠ .tbl ps) (h5 : ∀ c q, a = c → o ≠ LamX.CodeO c q) (h6 : ∀ ps, o' ≠ .tbl ps := by intro ps z; cases z) : Ext G [a] H [a] (upd H a o') := by
  have ne : ∀ {b : Addr} {u : HO}, H b = some u → o ≠ u → b ≠ a := fun {b u} q n z => n (by rw [z, h] at q; exact Option.some.inj q)
  refine ⟨fun b u q n t => ?_, fun b u q => ?_, fun b u w q => ?_, fun b u q => ?_, fun b q => ?_, ⟨[], by simp, fun _ z => by cases z⟩, fun t p hp => ?_⟩
  · rw [upd_ne (fun z => n (by simp [z]))]; exact q
  · rw [upd_ne (ne q (h1 _))]; exact q
  · rw [upd_ne (ne q (h2 _ _))]; exact q
  · rw [upd_ne (ne q (h3 _))]; exact q
  · by_cases z : b = a
    · rw [z]; exact ⟨_, upd_same, h6⟩
    · obtain ⟨u, q, qn⟩ := q
      exact ⟨u, by rw [upd_ne z]; exact q, qn⟩
  · obtain ⟨ps, g1, g2, g3⟩ := t p hp
    refine ⟨ps, by rw [upd_ne (ne g1 (h4 _))]; exact g1, g2, fun pos cv hc => ?_⟩
    obtain ⟨c, g4, g5⟩ := g3 pos cv hc
    refine ⟨c, g4, ?_⟩
    have hca : c ≠ a := fun z => h5 c p.2 z.symm (Option.some.inj (h.symm.trans (z ▸ g5)))
    rw [upd_ne hca]
    exact g5
/-- what is kept at a cell's change -/
theorem Keep.upd1 {a : Addr} {o o' : HO} (h : H a = some o) (h1 : ∀ xs, o ≠ .tup xs) (h2 : ∀ b u, o ≠ .frz b u) (ha : a ∈ e) : Keep G e H e (upd H a o') := by
  have ne : ∀ {b : Addr}, b ∉ e → b ≠ a := fun {b} n z => n (z ▸ ha)
  have ne2 : ∀ {b : Addr} {u : HO}, H b = some u → o ≠ u → b ≠ a := fun {b u} q n z => n (by rw [z, h] at q; exact Option.some.inj q)
  have st : ∀ b xs, SqT G.K H b xs → SqT G.K (upd H a o') b xs := fun b xs q => by
    rcases q with (q | ⟨u, q⟩) | q
    · exact .inl (.inl (by rw [upd_ne (ne2 q (h1 _))]; exact q))
    · exact .inl (.inr ⟨u, by rw [upd_ne (ne2 q (h2 _ _))]; exact q⟩)
    · exact .inr q
  refine ⟨st, fun b xs q => ?_, fun b xs q n => ⟨by rw [upd_ne (ne n)]; exact q, n⟩, fun b u t ks xs q n r => ⟨by rw [upd_ne (ne n)]; exact q, n, r.ext st⟩⟩
  rcases q with ⟨u, q⟩ | q
  · exact .inl ⟨u, by rw [upd_ne (ne2 q (h2 _ _))]; exact q⟩
  · exact .inr q
end
/-! dicts: what is there, what comes -/
section
variable {G : Gc} {e : List Addr} {H : Hp}
theorem zip_map_put (k : Key) (v : V) : ∀ {kk : List Key} {xs : List V}, kk.length = xs.length → (kk.zip xs).map (fun kv => if kv.1 = k then (kv.1, v) else kv) = kk.zip ((kk.zip xs).map fun kv => if kv.1 = k then v else kv.2)
  | [], [], _ => rfl
  | j :: kk, x :: xs, h => by
    simp only [List.zip_cons_cons, List.map_cons]
    rw [zip_map_put k v (by simpa using h)]
    congr 1
    by_cases q : j = k <;> simp [q]
  | [], _ :: _, h => by simp at h
  | _ :: _, [], h => by simp at h
theorem putV_rvs {k : Key} {v : V} {d : D} (r : RV G e H d v) : ∀ {kk : List Key} {xs : List V} {ds : List D}, kk.length = xs.length → kk.Nodup → RVs G e H ds xs → RVs G e H (dputV (kk.map kN) ds (kN k) d) ((kk.zip xs).map fun kv => if kv.1 = k then v else kv.2)
  | [], [], _, _, _, .nil => .nil
  | j :: kk, x :: xs, y :: ds, h, hn, .cons r1 r2 => by
    simp only [List.map_cons, List.zip_cons_cons, dputV]
    obtain ⟨n1, n2⟩ := List.nodup_cons.mp hn
    by_cases q : j = k
    · subst q
      rw [if_pos rfl, if_pos rfl]
      refine .cons r ?_
      have : ∀ (l : List Key) (zs : List V), j ∉ l → l.length = zs.length → (l.zip zs).map (fun kv => if kv.1 = j then v else kv.2) = zs := by
        intro l
        induction l with
        | nil => intro zs _ hl; cases zs with
          | nil => rfl
          | cons _ _ => simp at hl
        | cons a l ih => intro zs hn hl; cases zs with
          | nil => simp at hl
          | cons z zs =>
            simp only [List.mem_cons, not_or] at hn
            simp only [List.zip_cons_cons, List.map_cons]
            rw [if_neg (fun z => hn.1 z.symm), ih zs hn.2 (by simpa using hl)]
      rw [this kk xs n1 (by simpa using h)]
      exact r2
    · rw [if_neg (fun z => q (kN_inj z)), if_neg q]
      exact .cons r1 (putV_rvs r (by simpa using h) n2 r2)
  | [], _ :: _, _, h, _, _ => by simp at h
  | _ :: _, [], _, h, _, _ => by simp at h
theorem any_zip (k : Key) : ∀ {kk : List Key} {xs : List V}, kk.length = xs.length → ((kk.zip xs).any fun kv => decide (kv.1 = k)) = decide (kN k ∈ kk.map kN)
  | [], [], _ => by simp
  | j :: kk, x :: xs, h => by
    simp only [List.zip_cons_cons, List.any_cons, List.map_cons, List.mem_cons]
    rw [any_zip k (by simpa using h)]
    by_cases q : j = k
    · subst q; simp
    · have : ¬ kN k = kN j := fun z => q (kN_inj z.symm)
      simp [q, this]
  | [], _ :: _, h => by simp at h
  | _ :: _, [], h => by simp at h
end
section
variable {X : Cx} {T : List (Addr × Str)} {pins : List (Addr × Obj)} {s : Shared} {σ : St} {H : Hp}
theorem dk_nodup {a : Addr} {kk : List Key} {xs : List V} (I : Inv X pins σ H s) (h : H a = some (.dK (kk.zip xs))) (hl : kk.length = xs.length) : kk.Nodup := by
  obtain ⟨_, _, vs, rel, o, es, ep, h1, h2, h3, h4, h5⟩ := dk_of I.hok h
  have e : ∀ {l : List (Key × V)} {m : List (Key × Value)}, KV l m → m.map (·.1) = l.map (·.1) := by
    intro l m q
    induction q with
    | nil => rfl
    | cons q _ ih => simp [ih, q.1]
  have h6 : (vs.map (·.1)).Nodup := h5.2
  rw [e rel] at h6
  rw [show (kk.zip xs).map (·.1) = kk from List.map_fst_zip (by omega)] at h6
  exact h6

theorem code_ne {a : Addr} {o : HO} (I : Inv X pins σ H s) (h : H a = some o) (hd : ∀ ob : Obj, s.heap.get? a = some ob → ∀ vs, ob.data ≠ .fields vs) : ∀ c q, a = c → o ≠ LamX.CodeO c q := fun c q e z => by
  subst e z
  obtain ⟨⟨oc, vs, t, h1, h2, _⟩, _⟩ := I.hok a _ h
  exact hd oc h1 vs h2
theorem lst_code {a c : Addr} {xs : List V} {q : Str} : HO.lst xs ≠ LamX.CodeO c q := fun z => by unfold LamX.CodeO at z; cases z
theorem dK_code {c : Addr} {xs : List (Key × V)} {q : Str} : HO.dK xs ≠ LamX.CodeO c q := fun z => by unfold LamX.CodeO at z; cases z
theorem ins_code {C dx c : Addr} {xs : List (Str × V)} {q : Str} : HO.ins C dx xs ≠ LamX.CodeO c q := fun z => by unfold LamX.CodeO at z; cases z
/-- a cell is set: by values -/
def rSet (G : Gc) : TSet := fun o i v H Q => ∃ e a c ob key d c', o = .ref a ∧ a ∈ e ∧ H a = some ob ∧ RC G e H a c ob ∧ RV G e H key i ∧ RV G e H d v ∧ setC c key d = some c' ∧
  ∀ ob', Ext G [a] H [a] (upd H a ob') → RC G e (upd H a ob') a c' ob' → Q (upd H a ob')
theorem dput_k {G : Gc} {e : List Addr} {H : Hp} {a : Addr} {k : Key} {kk : List Key} {xs : List V} {ds : List D} {v : V} {d : D} (hl : kk.length = xs.length) (hn : kk.Nodup) (r : RVs G e H ds xs) (rv : RV G e H d v) :
    ∃ xs', RD G H a false (dput (kk.map kN) ds (kN k) d).1 xs' (.dK (putK (kk.zip xs) k v)) ∧ RVs G e H (dput (kk.map kN) ds (kN k) d).2 xs' := by
  unfold dput putK
  rw [any_zip k hl]
  by_cases q : kN k ∈ kk.map kN
  · rw [if_pos q, if_pos (decide_eq_true q), zip_map_put k v hl]
    exact ⟨_, .k kk _ (by simp [hl]), putV_rvs rv hl hn r⟩
  · rw [if_neg q, if_neg (by simpa using q)]
    refine ⟨xs ++ [v], ?_, r.append (.cons rv .nil)⟩
    rw [show kk.zip xs ++ [(k, v)] = (kk ++ [k]).zip (xs ++ [v]) by rw [List.zip_append hl]; rfl]
    have := RD.k (G := G) (H := H) (a := a) (kk ++ [k]) (xs ++ [v]) (by simp [hl])
    simpa using this
def putT (ts : List (NestedKey × Addr × V)) (k : NestedKey) (b : Addr) (v : V) : List (NestedKey × Addr × V) := if k ∈ ts.map (·.1) then ts.map (fun t => if t.1 = k then (t.1, t.2.1, v) else t) else ts ++ [(k, b, v)]
theorem putT_us {k : NestedKey} {b : Addr} {v : V} {u : Value} (rv : RelV v u) {ts : List (NestedKey × Addr × V)} {us : List (NestedKey × Addr × Value)} (h : PT3 ts us) (hs : (atKey us k).isSome = decide (k ∈ ts.map (·.1))) : PT3 (putT ts k b v) (storedH us k b u) := by
  unfold putT storedH
  rw [hs]
  by_cases q : k ∈ ts.map (·.1)
  · rw [if_pos q, if_pos (decide_eq_true q)]
    clear hs q
    induction h with
    | nil => exact .nil
    | @cons p q ps qs hq t ih =>
      refine .cons ?_ ih
      unfold putAt
      dsimp only
      by_cases z : p.1 = k
      · rw [if_pos z, if_pos (hq.1.symm.trans z)]
        exact ⟨hq.1, hq.2.1, rv⟩
      · rw [if_neg z, if_neg (fun w => z (hq.1.trans w))]
        exact hq
  · rw [if_neg q, if_neg (by simpa using q)]
    have : ∀ {l : List (NestedKey × Addr × V)} {m : List (NestedKey × Addr × Value)}, PT3 l m → PT3 (l ++ [(k, b, v)]) (m ++ [(k, b, u)]) := by
      intro l m h
      induction h with
      | nil => exact .cons ⟨rfl, rfl, rv⟩ .nil
      | cons hq _ ih => exact .cons hq ih
    exact this h
theorem putT_ds {G : Gc} {e : List Addr} {H : Hp} {k : NestedKey} {b : Addr} {v : V} {d : D} (rv : RV G e H d v) {ts : List (NestedKey × Addr × V)} {ds : List D} (hn : (ts.map (·.1)).Nodup) (r : RVs G e H ds (ts.map (·.2.2))) :
    (putT ts k b v).map (·.1) = (dput (ts.map (·.1)) ds k d).1 ∧ RVs G e H (dput (ts.map (·.1)) ds k d).2 ((putT ts k b v).map (·.2.2)) := by
  unfold putT dput
  by_cases q : k ∈ ts.map (·.1)
  · rw [if_pos q, if_pos q]
    refine ⟨?_, ?_⟩
    · rw [List.map_map]
      apply List.map_congr_left
      intro t _
      by_cases z : t.1 = k <;> simp [z]
    · clear q
      induction ts generalizing ds with
      | nil => cases r; exact .nil
      | cons t ts ih =>
        cases r with
        | @cons y w ds' ws r1 r2 =>
          simp only [List.map_cons, List.nodup_cons] at hn
          simp only [List.map_cons, dputV]
          by_cases z : t.1 = k
          · rw [if_pos z]
            simp only [z, if_true]
            refine .cons rv ?_
            have same : ts.map (fun t => (if t.1 = k then (t.1, t.2.1, v) else t)) = ts := by
              have : ts.map (fun t => (if t.1 = k then (t.1, t.2.1, v) else t)) = ts.map id := by
                apply List.map_congr_left
                intro t' ht'
                rw [if_neg (fun w => hn.1 (by rw [z, ← w]; exact List.mem_map_of_mem ht'))]; rfl
              rw [this, List.map_id]
            rw [same]
            exact r2
          · rw [if_neg z]
            simp only [z, if_false]
            exact .cons r1 (ih hn.2 r2)
  · rw [if_neg q, if_neg q]
    simp only [List.map_append, List.map_cons, List.map_nil]
    exact ⟨trivial, r.append (.cons rv .nil)⟩
theorem dicN_write {a : Addr} {ts ts' : List (NestedKey × Addr × V)} {us' : List (NestedKey × Addr × Value)} {h' : Heap} {t' : Nat} (I : Inv X pins σ H s) (h : H a = some (dicN X.prog X.w a ts)) (hl : ts'.length ≤ sizeLine) (hs : Heap.SameBut a s.heap h') (ht : PT3 ts' us') (hd : h'.DictOfH (nestedKind X.prog X.w) a us') (hsys : (a == sysModules) = false) :
    Inv X pins σ (upd H a (dicN X.prog X.w a ts')) { s with heap := h', toks := t' } := by
  obtain ⟨o, es, ep, h1, h2, h3, h4, h5, h6⟩ := hd
  refine d_write I (by rw [h]; exact True.intro) hs ⟨o, h1⟩ ⟨⟨hl, hsys, us', ht, o, es, ep, h1, h2, h3, h4, h6⟩, ⟨o, h1⟩, ?_⟩
  rintro g1 g2 ⟨q1, q2, us, q3, o', es', ep', q4, q5⟩ k
  exact ⟨q1, q2, us, q3, o', es', ep', k _ q4, q5⟩
theorem o_set (hu : X.A.units + 65 < cLine) : PSet X (rSet (gOf X T)) := by
  intro pins s σ H o i v ov iv u Q I ro ri rv hh
  obtain ⟨e, a, c, ob, key, d, c', rfl, hae, ha, hc, rk, rd, hset, q⟩ := hh
  have none3 : ∀ {p : Prop}, (none : Option Cell) = some c' → p := fun h => by cases h
  cases c with
  | ins _ _ => exact none3 (by cases key <;> exact hset)
  | lst xs =>
   cases key with
   | int j =>
    obtain ⟨n, hn, rfl⟩ := Option.map_eq_some_iff.mp hset
    cases hc with
    | @lst vs _ hvs =>
      cases rk
      have kp : Keep (gOf X T) e H e (upd H a (.lst (vs.set n v))) := Keep.upd1 ha (fun _ z => by cases z) (fun _ _ z => by cases z) hae
      exact set_list pins s σ H _ _ v ov iv u Q I ro ri rv ⟨a, vs, j, n, rfl, rfl, ha, by rw [← hvs.len]; exact hn, q _ (Ext.upd1 ha (fun _ z => by cases z) (fun _ _ z => by cases z) (fun _ z => by cases z) (fun _ z => by cases z) fun c q _ => lst_code (a := a)) (.lst ((RVs.set rd n hvs).keep kp))⟩
   | _ => exact none3 hset
  | dic t ks vs =>
   cases t with
   | false =>
    cases key with
    | int j =>
     unfold setC at hset
     dsimp only at hset
     split at hset
     · rename_i hlen
       cases hset
       cases hc with
       | @dic _ _ _ xs _ hrd hvs =>
         cases hrd with
         | k kk xs hl =>
           cases rk
           cases ro
           obtain ⟨xs', r1, r2⟩ := dput_k (a := a) (k := .inl j) hl (dk_nodup I ha hl) hvs rd
           have kp : Keep (gOf X T) e H e (upd H a (.dK (putK (kk.zip xs) (.inl j) v))) := Keep.upd1 ha (fun _ z => by cases z) (fun _ _ z => by cases z) hae
           refine d_setItem (by omega) I (DPut.k (k := .inl j) ha ?_) ri rv fun s' I' => ⟨_, I', q _ (Ext.upd1 ha (fun _ z => by cases z) (fun _ _ z => by cases z) (fun _ z => by cases z) (fun _ z => by cases z) fun c q _ => dK_code) (.dic (r1.ext fun _ _ z => kp.tup _ _ z) (r2.keep kp))⟩
           rw [List.length_zip, ← hl, Nat.min_self]
           exact big_lt (Nat.le_of_lt (by simpa using hlen))
     · cases hset
    | str j =>
     unfold setC at hset
     dsimp only at hset
     split at hset
     · rename_i hlen
       cases hset
       cases hc with
       | @dic _ _ _ xs _ hrd hvs =>
         cases hrd with
         | k kk xs hl =>
           cases rk
           cases ro
           obtain ⟨xs', r1, r2⟩ := dput_k (a := a) (k := .inr j) hl (dk_nodup I ha hl) hvs rd
           have kp : Keep (gOf X T) e H e (upd H a (.dK (putK (kk.zip xs) (.inr j) v))) := Keep.upd1 ha (fun _ z => by cases z) (fun _ _ z => by cases z) hae
           refine d_setItem (by omega) I (DPut.k (k := .inr j) ha ?_) ri rv fun s' I' => ⟨_, I', q _ (Ext.upd1 ha (fun _ z => by cases z) (fun _ _ z => by cases z) (fun _ z => by cases z) (fun _ z => by cases z) fun c q _ => dK_code) (.dic (r1.ext fun _ _ z => kp.tup _ _ z) (r2.keep kp))⟩
           rw [List.length_zip, ← hl, Nat.min_self]
           exact big_lt (Nat.le_of_lt (by simpa using hlen))
     · cases hset
    | _ => exact none3 hset
   | true =>
    cases key with
    | tup xs =>
     unfold setC at hset
     dsimp only at hset
     split at hset
     · rename_i k hk
       split at hset
       · rename_i hlen
         cases hset
         cases hc with
         | @dic _ _ _ xs _ hrd hvs =>
           cases hrd with
           | n ts hts =>
             have hrn := rk.rn hk
             cases rk with
             | @tup b ys _ t1 t2 =>
               cases ro
               cases ri
               obtain ⟨z1, z2, us, z3, z4⟩ := dicN_at I ha hts
               have hlt : ts.length = us.length := by
                 have : ∀ {l : List (NestedKey × Addr × V)} {m : List (NestedKey × Addr × Value)}, PT3 l m → l.length = m.length := by
                   intro l m h
                   induction h with
                   | nil => rfl
                   | cons _ _ ih => simp [ih]
                 exact this z3
               have hnd : (ts.map (·.1)).Nodup := by
                 have e1 : ∀ {l : List (NestedKey × Addr × V)} {m : List (NestedKey × Addr × Value)}, PT3 l m → m.map (·.1) = l.map (·.1) := by
                   intro l m h
                   induction h with
                   | nil => rfl
                   | cons h _ ih => simp [ih, h.1]
                 rw [← e1 z3]
                 exact z4.nodup
               have hcode : ∀ c q, a = c → dicN X.prog X.w a ts ≠ LamX.CodeO c q := code_ne I ha fun ob hob vs hd => by
                 obtain ⟨o, es, ep, h1, h2, h3, _⟩ := z4
                 rw [hob] at h1; cases h1
                 rw [hd] at h3; cases h3
               refine wpAny_setItem_heap (knd := nestedKind X.prog X.w) (k := k) (hsz := by rw [← hlt]; exact z1) (show X.A.units + 1 + 8 < cLine by omega) ⟨RN.nested I _ _ _ hrn rfl, hlen.1⟩ z4 fun h' hd' hsb => ?_
               have hs := (atKey_get (G := gOf X T) k z3 hvs).2
               have p3 := putT_us (b := b) rv z3 hs
               obtain ⟨p4, p5⟩ := putT_ds (k := k) (b := b) rd hnd hvs
               have hlen2 : (putT ts k b v).length ≤ sizeLine := by
                 unfold putT
                 split
                 · rw [List.length_map]; exact z1
                 · rw [List.length_append]
                   have : ts.length < big := by simpa using hlen.2
                   exact big_ok (show ts.length + 1 ≤ big from this)
               have I' := dicN_write (t' := s.toks + (nestedKind X.prog X.w).draws k) I ha hlen2 hsb p3 hd' z2
               have kp : Keep (gOf X T) e H e (upd H a (dicN X.prog X.w a (putT ts k b v))) := Keep.upd1 ha (fun _ z => by cases z) (fun _ _ z => by cases z) hae
               refine ⟨_, I', q _ (Ext.upd1 ha (fun _ z => by cases z) (fun _ _ z => by cases z) (fun _ z => by cases z) (fun _ z => by cases z) hcode) ?_⟩
               have hnew : ∀ t ∈ putT ts k b v, RN (gOf X T) (upd H a (dicN X.prog X.w a (putT ts k b v))) t.1 (.ref t.2.1) ∧ t.1.depth ≤ 8 := by
                 intro t ht
                 unfold putT at ht
                 split at ht
                 · obtain ⟨t0, h0, rfl⟩ := List.mem_map.mp ht
                   obtain ⟨g1, g2⟩ := hts t0 h0
                   by_cases z : t0.1 = k
                   · rw [if_pos z]; exact ⟨g1.ext fun _ _ z => kp.tup _ _ z, g2⟩
                   · rw [if_neg z]; exact ⟨g1.ext fun _ _ z => kp.tup _ _ z, g2⟩
                 · rcases List.mem_append.mp ht with h0 | h0
                   · exact ⟨(hts t h0).1.ext fun _ _ z => kp.tup _ _ z, (hts t h0).2⟩
                   · have : t = (k, b, v) := by simpa using h0
                     subst this
                     exact ⟨hrn.ext fun _ _ z => kp.tup _ _ z, hlen.1⟩
               have rdn := RD.n (G := gOf X T) (H := upd H a (dicN X.prog X.w a (putT ts k b v))) (a := a) (putT ts k b v) hnew
               rw [p4] at rdn
               exact .dic rdn (p5.keep kp)
       · cases hset
     · cases hset
            | _ => exact none3 hset
end
end Mir

/-! Mir14: statements and calls that change cells; dicts that are made; methods. -/
namespace Mir
open PySem PySem.Spec PyProof.Rows L2 RZ
def setM (fo fi fv : ME) : MS := fun ρ S => toS ρ (fv ρ S) fun uv S1 => toS ρ (fo ρ S1) fun uo S2 => toS ρ (fi ρ S2) fun ui S3 => match uo, ui, uv with
  | .c j, .d k, .d d => match S3[j]? with
    | some c => match setC c k d with
      | some c' => .nx ρ (S3.set j c')
      | none => .un
    | none => .un
  | _, _, _ => .un
def isLst : Option Cell → Bool
  | some (.lst _) => true
  | _ => false
def appM (fo fe : ME) : ME := fun ρ S => (fo ρ S).bind fun uo S1 => match uo with
  | .c j => if isLst S1[j]? = true then (fe ρ S1).bind fun ue S2 => match ue, S2[j]? with
    | .d d, some (.lst xs) => if xs.length < big then .ok (.d .non) (S2.set j (.lst (xs ++ [d]))) else .un
    | _, _ => .un
   else .un
  | _ => .un
section
variable {X : Cx} {T : List (Addr × Str)} {W : WX} {o i e value : Expr} {fo fi fv : ME} {pos p2 apos : Pos}
theorem s_setI (hu : X.A.units + 65 < cLine) (he : PE X value (tE (gOf X T) W fv)) (ho : PE X o (tE (gOf X T) W fo)) (hi : PE X i (tE (gOf X T) W fi))
    (ha : ∀ v, assign (.Subscript o i p2) X.env v = (do
      let ov ← holding [v] (eval o X.env)
      let iv ← holding [v, ov] (eval i X.env)
      standAt p2
      holding [v, ov, iv] (setItem ov iv v)
      release [v, ov, iv] []) := by intro _; rfl)
    (hs : swapsWithSole [.Subscript o i p2] value pos.line X.env = pure false := by rfl) (hw : swappedStores [.Subscript o i p2] value X.env = pure none := by rfl)
    (h1 : (assignEach [.Subscript o i p2] X.env).map (·.2) = [assign (.Subscript o i p2) X.env] := by rfl) : PS X (.Assign [.Subscript o i p2] value pos) (tS (gOf X T) W (setM fo fi fv)) :=
  ps_mono (ps_asg he (pg_sub ho hi (o_set (T := T) hu) ha) hs hw h1) fun Dn σ H h => by
    obtain ⟨x, m, ρ, S, p, h⟩ := h
    refine ⟨x, m, ρ, S, p, (Post.toS h p).mono fun uv S1 m1 H1 E1 R1 ⟨_, _, h1⟩ v rv => ?_⟩
    have p1 := p.ext E1 R1
    refine ⟨x, m1, ρ, S1, p1, (Post.toS h1 p1).mono fun uo S2 m2 H2 E2 R2 ⟨_, _, h2⟩ ov ro => ?_⟩
    have p2 := p1.ext E2 R2
    refine ⟨x, m2, ρ, S2, p2, (Post.toS h2 p2).mono fun ui S3 m3 H3 E3 R3 ⟨_, _, h3⟩ iv ri => ?_⟩
    have p3 := p2.ext E3 R3
    cases uo with
    | d _ => exact h3.elim
    | t _ => exact h3.elim
    | c j =>
      cases ui with
      | c _ => exact h3.elim
      | t _ => exact h3.elim
      | d k =>
        cases uv with
        | c _ => exact h3.elim
        | t _ => exact h3.elim
        | d d =>
          dsimp only at h3
          cases hj : S3[j]? with
          | none => simp only [hj] at h3; exact h3.elim
          | some c =>
            simp only [hj] at h3
            cases hs' : setC c k d with
            | none => simp only [hs'] at h3; exact h3.elim
            | some c' =>
              simp only [hs'] at h3
              cases ro.ext E3 with
              | @c _ a ha' =>
                obtain ⟨ob, o1, o2⟩ := R3.at' j a c ha' hj
                cases (rv.ext E2).ext E3 with
                | d rv =>
                  cases ri with
                  | d ri =>
                    refine ⟨x ++ m3, a, c, ob, k, d, c', rfl, List.mem_append_right _ (List.mem_of_getElem? ha'), o1, o2, ri, rv, hs', fun ob' E4 rc => ?_⟩
                    have R4 := R3.one E4 ha' upd_same rc
                    have E5 : Ext (gOf X T) m3 H3 m3 (upd H3 a ob') := E4.of_one (List.mem_of_getElem? ha')
                    exact h3 m3 _ σ E5 (p3.ext E5 R4)
theorem e_app (ho : PE X o (tE (gOf X T) W fo)) (he : PE X e (tE (gOf X T) W fv)) (hbase : attributeBase o "append" X.env (eval o X.env) = eval o X.env := by rfl)
    (hfew : ((backTo p2 (starEach [e] X.env)).all (fun x => !x.1) && (backToKw p2 (keywordEach [] X.env)).all (fun x => x.1.isSome)
      && decide ([e].length + ([] : List Keyword).length + (if ([] : List Keyword).isEmpty then 0 else 1) < 30)) = true := by rfl)
    (hline : (apos.endLine == p2.line) = true := by rfl) (hs : starEach [e] X.env = (false, eval e X.env) :: starEach [] X.env := by rfl) (hpl : (backTo p2 (starEach [] X.env)).any (·.1) = false := by rfl) :
    PE X (.Call (.Attribute o "append" apos) [e] [] p2) (tE (gOf X T) W (appM fo fv)) :=
  pe_mono (pe_bm PySem.F.plainAttrs_list PySem.F.slot_list_append PySem.F.type_list_append mt_append ho (pa_cons he pa_nil hs) hbase hfew hline hs hpl) fun σ H Q h => by
    obtain ⟨x, m, ρ, S, p, h⟩ := h
    refine ⟨x, m, ρ, S, p, (Post.bind h).mono fun uo S1 m1 H1 E1 R1 ⟨_, _, h1⟩ ov ro => ?_⟩
    have p1 := p.ext E1 R1
    cases uo with
    | d _ => exact h1.elim
    | t _ => exact h1.elim
    | c j =>
      dsimp only at h1
      split at h1
      case isFalse => exact h1.elim
      case isTrue hl =>
      cases ro with
      | @c _ a ha' =>
        have hjl : j < S1.length := by rw [← R1.len]; exact (List.getElem?_eq_some_iff.mp ha').1
        cases hc : S1[j]? with
        | none => rw [List.getElem?_eq_none_iff] at hc; omega
        | some c =>
          rw [hc] at hl
          obtain ⟨ob, o1, o2⟩ := R1.at' j a c ha' hc
          cases o2 with
          | dic _ _ => simp [isLst] at hl
          | ins _ _ _ => simp [isLst] at hl
          | @lst vs _ hvs =>
            refine ⟨.inl ⟨rfl, vs, .of o1⟩, x, m1, ρ, S1, p1, (Post.bind h1).mono fun ue S2 m2 H2 E2 R2 ⟨_, _, h2⟩ v rv => ?_⟩
            have ha2 : m2[j]? = some a := by
              obtain ⟨nw, e1, _⟩ := E2.pre
              rw [e1, List.getElem?_append_left (List.getElem?_eq_some_iff.mp ha').1]; exact ha'
            cases ue with
            | c _ => exact h2.elim
            | t _ => exact h2.elim
            | d d =>
              cases hc2 : S2[j]? with
              | none => simp only [hc2] at h2; exact h2.elim
              | some c2 =>
                rw [hc2] at h2
                cases c2 with
                | dic _ _ _ => exact h2.elim
                | ins _ _ => exact h2.elim
                | lst xs =>
                  dsimp only at h2
                  split at h2
                  case isFalse => exact h2.elim
                  case isTrue hlen =>
                  obtain ⟨ob2, g1, g2⟩ := R2.at' j a _ ha2 hc2
                  cases g2 with
                  | @lst vs2 _ hvs2 =>
                    cases rv with
                    | d rv =>
                      refine ⟨a, vs2, v, rfl, rfl, g1, by rw [← hvs2.len]; exact big_lt (Nat.le_of_lt hlen), ?_⟩
                      have E3 : Ext (gOf X T) [a] H2 [a] (upd H2 a (.lst (vs2 ++ [v]))) := Ext.upd1 g1 (fun _ z => by cases z) (fun _ _ z => by cases z) (fun _ z => by cases z) (fun _ z => by cases z) fun c q _ => lst_code (a := a)
                      have kp : Keep (gOf X T) (x ++ m2) H2 (x ++ m2) (upd H2 a (.lst (vs2 ++ [v]))) := Keep.upd1 g1 (fun _ z => by cases z) (fun _ _ z => by cases z) (List.mem_append_right _ (List.mem_of_getElem? ha2))
                      have R3 := R2.one E3 ha2 upd_same (.lst ((hvs2.append (.cons rv .nil)).keep kp))
                      exact h2 m2 _ (E3.of_one (List.mem_of_getElem? ha2)) R3 _ (.d .non)

/-! ### dicts that are made -/
/-- {} that is to be changed, with plain keys; with tuples as keys -/
def ndiM (t : Bool) : ME := fun _ S => .ok (.c S.length) (S ++ [.dic t [] []])
theorem e_ndK : PE X (.Dict [] [] pos) (tE (gOf X T) W (ndiM false)) := pe_mono pe_dnewK fun σ H Q h => by
  obtain ⟨x, m, ρ, S, p, h⟩ := h
  intro a np
  have E2 : Ext (gOf X T) m H (m ++ [a]) (upd H a (.dK [])) := Ext.cell np
  exact h (m ++ [a]) _ E2 (p.sto.cell np (.dic (.k [] [] rfl) .nil)) _ (.c (by rw [← p.sto.len]; simp))
theorem e_ndN : PE X (.Dict [] [] pos) (tE (gOf X T) W (ndiM true)) := ⟨fun pins s σ H Q I h => by
  obtain ⟨x, m, ρ, S, p, h⟩ := h
  have np : H s.heap.objs.size = none := I.hok.fresh (Nat.le_refl _)
  have hsys : (s.heap.objs.size == sysModules) = false := by
    exact beq_false_of_ne (Nat.ne_of_gt I.big)
  refine wpAny_Dict_empty ⟨.ref s.heap.objs.size, _, I.laid (a := s.heap.objs.size) (o := dicN X.prog X.w s.heap.objs.size []) (t' := s.toks) (fun _ _ q => Heap.get?_push_of_some _ q) (Nat.le_refl _) ⟨⟨Nat.zero_le _, hsys, [], .nil, ?_⟩, ⟨_, Heap.get?_push_size _ rfl⟩, ?_⟩, rfl, ?_⟩
  · obtain ⟨o, es, ep, h1, h2, h3, h4, h5, h6⟩ := Heap.DictOfH.new (knd := nestedKind X.prog X.w) s.heap
    exact ⟨o, es, ep, h1, h2, h3, h4, h6⟩
  · rintro g1 g2 ⟨q1, q2, us, q3, o', es', ep', q4, q5⟩ k
    exact ⟨q1, q2, us, q3, o', es', ep', k _ q4, q5⟩
  · have E2 : Ext (gOf X T) m H (m ++ [s.heap.objs.size]) (upd H s.heap.objs.size (dicN X.prog X.w s.heap.objs.size [])) := Ext.cell np
    refine h (m ++ [s.heap.objs.size]) _ E2 (p.sto.cell np (.dic ?_ .nil)) _ (.c (by rw [← p.sto.len]; simp))
    exact RD.n (G := gOf X T) [] (fun _ z => by cases z)⟩
end
end Mir

/-! Mir15: zip of any two; texts: walked, joined, split, written; what is never reached; a dict of the module. -/
namespace Mir
open PySem PySem.Spec PyProof.Rows L2 RZ
/-! ### never reached -/
def unM : MS := fun _ _ => .un
theorem s_un {X : Cx} {T : List (Addr × Str)} {W : WX} {st : Stmt} : PS X st (tS (gOf X T) W unM) := ⟨fun pins s σ H Dn I h => by
  obtain ⟨x, m, ρ, S, p, h⟩ := h
  exact h.elim⟩
def unE : ME := fun _ _ => .un
theorem e_un0 {X : Cx} {T : List (Addr × Str)} {W : WX} {e : Expr} : PE X e (tE (gOf X T) W unE) := ⟨fun pins s σ H Q I h => by
  obtain ⟨x, m, ρ, S, p, h⟩ := h
  exact h.elim⟩
/-! ### zip of lists, tuples -/
def SqB (t : Bool) (K : PySem.W.Frag) (H : Hp) (a : Addr) (xs : List V) : Prop := match t with
  | true => SqT K H a xs
  | false => SqL K H a xs
def itB (t : Bool) (h : Heap) (it l : Addr) (i : Nat) : Prop := match t with
  | true => h.IsTupleIter it l i
  | false => h.IsListIter it l i
def sqB (t : Bool) (h : Heap) (l : Addr) (items : Array Value) : Prop := match t with
  | true => h.IsTuple l items
  | false => h.IsList l items
theorem drawsB (t : Bool) {prog : Program} {w : World} {A : Around} (hh : A.handled = none) (it l : Addr) (hne : l ≠ it) (items : Array Value) :
    Draws prog w A it [it, l] items.size (fun i v => items[i]? = some v) (fun i h => itB t h it l i ∧ sqB t h l items) := by
  cases t
  · exact Draws.list hh it l hne items
  · exact Draws.tuple hh it l hne items
theorem itB.ex {t : Bool} {h : Heap} {it l : Addr} {i : Nat} (x : itB t h it l i) : ∃ o, h.get? it = some o ∧ ∀ v, o.data ≠ .cell v := by
  cases t
  · obtain ⟨o, e, _, d⟩ := x; exact ⟨o, e, fun v q => by rw [d] at q; cases q⟩
  · obtain ⟨o, e, _, d⟩ := x; exact ⟨o, e, fun v q => by rw [d] at q; cases q⟩
theorem itB.at {t : Bool} {h h' : Heap} {it l : Addr} {i : Nat} (x : itB t h it l i) (k : ∀ o, h.get? it = some o → h'.get? it = some o) : itB t h' it l i := by
  cases t
  · exact Heap.IsListIter.at x k
  · exact Heap.IsTupleIter.at x k
theorem SqB.items {t : Bool} {X : Cx} {pins : List (Addr × Obj)} {σ : St} {H : Hp} {s : Shared} {a : Addr} {xs : List V} (h : SqB t X.K H a xs) (I : Inv X pins σ H s) : ∃ its : List Value, Vals xs its ∧ sqB t s.heap a its.toArray ∧ a < s.heap.objs.size := by
  cases t
  · obtain ⟨its, r, p, _⟩ := I.list h
    exact ⟨its, r, p.isList, p.lt⟩
  · obtain ⟨its, r, p, _⟩ := I.tuple h
    obtain ⟨o, e, q⟩ := id p
    exact ⟨its, r, p, Heap.lt_size e⟩
theorem SqB.inj {t : Bool} {X : Cx} {pins : List (Addr × Obj)} {σ : St} {H : Hp} {s : Shared} {a : Addr} {xs ys : List V} (I : Inv X pins σ H s) (h : SqB t X.K H a xs) (h' : SqB t X.K H a ys) : xs = ys := by
  cases t
  · exact I.list_inj h h'
  · exact I.tuple_inj h h'
def ItzB (t u : Bool) (K : PySem.W.Frag) (a b : Addr) : It :=
  ⟨fun i H => ∃ (xs ys : List V) (x y : V), SqB t K H a xs ∧ SqB u K H b ys ∧ xs[i]? = some x ∧ ys[i]? = some y,
    fun i H v H' => ∃ T x y, v = .ref T ∧ H T = none ∧ H' = upd H T (.tup [x, y]) ∧ (∀ xs, SqB t K H a xs → xs[i]? = some x) ∧ ∀ ys, SqB u K H b ys → ys[i]? = some y,
    fun i H => ∃ xs ys : List V, SqB t K H a xs ∧ SqB u K H b ys ∧ (xs.length ≤ i ∨ ys.length ≤ i) ∧ i ≤ xs.length ∧ i ≤ ys.length⟩
theorem turn_zipB {t u : Bool} {P : Program} {w : World} {K : PySem.W.Frag} {elts : List Expr} {kk : Nat} {tpos : Pos} {a b z TI TO i1 i2 : Addr} (S : ZipSep2 z TI TO i1 i2 [i1, a] [i2, b]) (na : a ≠ i1) (nb : b ≠ i2) :
    Turn P w K (.Tuple elts kk tpos) (ItzB t u K a b) [z, TI, TO, i1, i2] z (fun i h => IsZip h z TI TO .none ∧ IsTupOf2 h TI (.ref i1) (.ref i2) ∧ (∃ x y, IsTupOf2 h TO x y) ∧ itB t h i1 a i ∧ itB u h i2 b i) where
  mem := by simp
  obj := fun i h st c hc => by
    obtain ⟨hz, hTI, ⟨x, y, hTO⟩, h1, h2⟩ := st
    have e' : c = z ∨ c = TI ∨ c = TO ∨ c = i1 ∨ c = i2 := by simpa using hc
    rcases e' with q | q | q | q | q
    · rw [q]; exact ⟨_, hz, fun v q => nomatch q⟩
    · rw [q]; exact ⟨_, hTI, fun v q => nomatch q⟩
    · rw [q]; exact ⟨_, hTO, fun v q => nomatch q⟩
    · rw [q]; exact h1.ex
    · rw [q]; exact h2.ex
  keep := fun i h h' st k => by
    obtain ⟨hz, hTI, ⟨x, y, hTO⟩, h1, h2⟩ := st
    exact ⟨k z (by simp) _ hz, k TI (by simp) _ hTI, ⟨x, y, k TO (by simp) _ hTO⟩, h1.at fun o q => k i1 (by simp) o q, h2.at fun o q => k i2 (by simp) o q⟩
  item := by
    intro X hP hw hK hc i pins s σ H E I hf st hg
    subst hP hw hK
    obtain ⟨hz, hTI, ⟨x0, y0, hTO⟩, h1, h2⟩ := st
    obtain ⟨xs, ys, x, y, hqx, hqy, hx, hy⟩ := hg
    obtain ⟨its, rv, p, _⟩ := hqx.items I
    obtain ⟨its2, rv2, p2, _⟩ := hqy.items I
    obtain ⟨v1, hu, ru⟩ := rv.get hx
    obtain ⟨v2, hu2, ru2⟩ := rv2.get hy
    have hzl : z < s.heap.objs.size := Heap.lt_size hz
    have hi1 : i1 < s.heap.objs.size := by obtain ⟨o, e, _⟩ := h1.ex; exact Heap.lt_size e
    have hi2 : i2 < s.heap.objs.size := by obtain ⟨o, e, _⟩ := h2.ex; exact Heap.lt_size e
    refine wpAny_pyNext_zipD2_item (A := X.A) S (drawsB t (A := X.A.in1) (I.ok.hd hc) i1 a na its.toArray) (drawsB u (A := X.A.in1) (I.ok.hd hc) i2 b nb its2.toArray) hz hTI hTO ⟨h1, p⟩ ⟨h2, p2⟩ (by have := (List.getElem?_eq_some_iff.mp hu).1; simpa using this) (by have := (List.getElem?_eq_some_iff.mp hu2).1; simpa using this) fun x1 x2 h' tk y1 y2 z' TO' h1' h2' hT hsz hk => ?_
    have e1 : x1 = v1 := by
      have q : its[i]? = some x1 := by simpa using y1
      rw [hu] at q; exact (Option.some.inj q).symm
    have e2 : x2 = v2 := by
      have q : its2[i]? = some x2 := by simpa using y2
      rw [hu2] at q; exact (Option.some.inj q).symm
    subst e1 e2
    refine ⟨_, rfl, wpAny_letOwnedTupleGo_zip (s := { s with heap := h', toks := tk }) z' fun h'' z'' sb => ?_⟩
    have hT2 : h''.get? s.heap.objs.size = some { cls := .type "tuple", data := .seq #[x1, x2] } := (sb.2 _ (Nat.ne_of_gt hzl)).trans hT
    have new : ObjOk X.prog X.w (upd H s.heap.objs.size (.tup [x, y])) h'' s.heap.objs.size (.tup [x, y]) :=
      ⟨by show 2 ≤ sizeLine; decide, [x1, x2], .cons ru (.cons ru2 .nil), ⟨_, hT2, rfl, _, rfl⟩⟩
    have I1 : Inv X pins σ (upd H s.heap.objs.size (.tup [x, y])) { s with heap := h'', toks := tk } :=
      I.turnedNew (t' := tk) (ch := [z, TI, TO, i1, i2]) (fun c o hb q => (sb.2 c (fun q' => hb (by simp [q']))).trans (hk c o (fun q' => hb (by simp [q'])) (fun q' => hb (by simp [q'])) (fun q' => hb (by simp [q'])) (fun q' => hb (by simp [q'])) q)) hf (Nat.le_refl _) new
    refine ⟨.ref s.heap.objs.size, _, I1, rfl, ⟨_, x, y, rfl, I.hok.fresh (Nat.le_refl _), rfl, fun l hl => by rw [SqB.inj I hl hqx]; exact hx, fun l hl => by rw [SqB.inj I hl hqy]; exact hy⟩, ⟨z'', ?_, ⟨x1, x2, ?_⟩, ?_, ?_⟩, fun c hcm => ?_⟩
    · exact (sb.2 _ S.TIz).trans (hk _ _ S.TIz S.TITO S.TIi1 S.TIi2 hTI)
    · exact (sb.2 _ S.TOz).trans TO'
    · exact h1'.1.at fun o q => (sb.2 _ S.zi1.symm).trans q
    · exact h2'.1.at fun o q => (sb.2 _ S.zi2.symm).trans q
    · have hlt : c < s.heap.objs.size := by
        have e' : c = z ∨ c = TI ∨ c = TO ∨ c = i1 ∨ c = i2 := by simpa using hcm
        rcases e' with q | q | q | q | q
        · rw [q]; exact hzl
        · rw [q]; exact Heap.lt_size hTI
        · rw [q]; exact Heap.lt_size hTO
        · rw [q]; exact hi1
        · rw [q]; exact hi2
      rw [upd_ne (Nat.ne_of_lt hlt)]
      exact (hf c hcm).1
  done := by
    intro X hP hw hK hc i pins s σ H E I hf st hg
    subst hP hw hK
    obtain ⟨hz, hTI, ⟨x0, y0, hTO⟩, h1, h2⟩ := st
    obtain ⟨xs, ys, hqx, hqy, hend, le1, le2⟩ := hg
    obtain ⟨its, rv, p, _⟩ := hqx.items I
    obtain ⟨its2, rv2, p2, _⟩ := hqy.items I
    have l1 := rv.length
    have l2 := rv2.length
    have z1 : its.toArray.size = its.length := by simp
    have z2 : its2.toArray.size = its2.length := by simp
    refine wpAny_pyNext_zipD2_end (i := i) (A := X.A) S (drawsB t (A := X.A.in1) (I.ok.hd hc) i1 a na its.toArray) (drawsB u (A := X.A.in1) (I.ok.hd hc) i2 b nb its2.toArray) hz hTI hTO ⟨h1, p⟩ ⟨h2, p2⟩ (by omega) (by omega) (by omega) fun h' tk hk => ?_
    exact ⟨rfl, I.turnedL (t' := tk) (ch := [z, TI, TO, i1, i2]) (fun c o hb q =>
      hk c o (fun q' => hb (by simp [q'])) (fun q' => hb (by simp [q'])) (fun q' => hb (by simp [q'])) (fun q' => hb (by simp [q'])) q) hf⟩
  self := fun A i s Q E st h => wpAny_pyIter_zip st.1 h
theorem begB (t : Bool) (l : Addr) (items : Array Value) : ∃ o, Begins (.ref l) o (fun h => sqB t h l items) ∧ ∀ h it, h.get? it = some o → itB t h it l 0 := by
  cases t
  · exact ⟨_, begins_list l items, fun h it e => ⟨_, e, rfl, rfl⟩⟩
  · exact ⟨_, begins_tuple l items, fun h it e => ⟨_, e, rfl, rfl⟩⟩
def iZipB (K : PySem.W.Frag) (ta : TA) : TI := fun σ H R => ta σ H fun vs H1 => ∃ t u a b xs ys, vs = [.ref a, .ref b] ∧ SqB t K H1 a xs ∧ SqB u K H1 b ys ∧ R (ItzB t u K a b) H1
theorem pi_zipB {X : Cx} {e e2 : Expr} {ta : TA} {p pos tpos : Pos} {elts : List Expr} {kk : Nat} (hg : Gl X "zip") (hm : X.mg "zip" = none) (ha : PA X [e, e2] ta)
    (hs : starEach [e, e2] X.env = (false, eval e X.env) :: starEach [e2] X.env := by rfl) (hpl : (backTo pos (starEach [e2] X.env)).any (·.1) = false := by rfl) :
    PI X (.Tuple elts kk tpos) (.Call (.Name "zip" p) [e, e2] [] pos) (iZipB X.K ta) := by
  refine ⟨fun pins s σ H R I h => ?_⟩
  refine Call_ (ld_blt I hg hm PyProof.Rows.boot_zip (PyProof.Rows.callWith_type1 (thn (ha.run pos pins s σ H _ I h) fun us s1 ⟨vs, H1, I1, r1, q1⟩ => ?_) hs hpl))
  obtain ⟨t, u, a, b, xs, ys, ex, hqx, hqy, q⟩ := q1
  subst ex
  cases r1 with
  | cons r rr =>
    cases rr with
    | cons r' rr =>
      cases rr
      cases r
      cases r'
      have fresh5 : ∀ c, c ∈ [s1.heap.objs.size + 4, s1.heap.objs.size + 2, s1.heap.objs.size + 3, s1.heap.objs.size, s1.heap.objs.size + 1] → FpOk X pins H1 c := fun c hcm => by
        have e' : c = s1.heap.objs.size + 4 ∨ c = s1.heap.objs.size + 2 ∨ c = s1.heap.objs.size + 3 ∨ c = s1.heap.objs.size ∨ c = s1.heap.objs.size + 1 := by simpa using hcm
        have hle : s1.heap.objs.size ≤ c := by omega
        exact I1.fpOk hle (I1.hok.fresh hle)
      obtain ⟨its, rv, p1, l1⟩ := hqx.items I1
      obtain ⟨its2, rv2, p2, l2⟩ := hqy.items I1
      obtain ⟨o1, B1, b1⟩ := begB t a its.toArray
      obtain ⟨o2, B2, b2⟩ := begB u b its2.toArray
      refine zip_begins2 B1 B2 p1 p2 fun h' hz hTI hTO h1 h2 hsz hk => wpAny_pyIter_zip hz ?_
      have I2 : Inv X pins σ H1 { s1 with heap := h' } := I1.kept (t' := s1.toks) hk
      refine ⟨s1.heap.objs.size + 4, [s1.heap.objs.size + 4, s1.heap.objs.size + 2, s1.heap.objs.size + 3, s1.heap.objs.size, s1.heap.objs.size + 1], _, _, H1, rfl, I2, turn_zipB ⟨?_, ?_, ?_, ?_, ?_, ?_, ?_, ?_, ?_, ?_, ?_, ?_, ?_⟩ (Nat.ne_of_lt l1) (Nat.ne_of_lt (Nat.lt_succ_of_lt l2)), ⟨hz, hTI, ⟨_, _, hTO⟩, b1 _ _ h1, b2 _ _ h2⟩, fresh5, q⟩
      all_goals (have q1 : ∀ k, s1.heap.objs.size + k ≠ a := fun k => Nat.ne_of_gt (Nat.lt_of_lt_of_le l1 (Nat.le_add_right _ _)))
      all_goals (have q2 : ∀ k, s1.heap.objs.size + k ≠ b := fun k => Nat.ne_of_gt (Nat.lt_of_lt_of_le l2 (Nat.le_add_right _ _)))
      all_goals (have q3 := q1 0)
      all_goals (have q4 := q2 0)
      all_goals (rw [Nat.add_zero] at q3 q4)
      all_goals (simp [q1, q2, q3, q4])
section
variable {G : Gc} {x m : List Addr} {H : Hp} {a b : Addr} {ds es : List D} {xs ys : List V}
/-- a list that is no cell, or a tuple -/
def SqD (G : Gc) (e : List Addr) (t : Bool) (H : Hp) (a : Addr) (xs : List V) : Prop := match t with
  | true => SqT G.K H a xs
  | false => H a = some (.lst xs) ∧ a ∉ e
theorem SqD.ext {t : Bool} {x2 m2 : List Addr} {H2 : Hp} (h : SqD G (x ++ m) t H a xs) (E : Ext G m H m2 H2) : SqB t G.K H2 a xs := by
  cases t
  · exact .inl (.inl (E.keep _ _ h.1 (fun z => h.2 (List.mem_append_right _ z)) (fun ps z => by cases z)))
  · exact SqT.ext E h
theorem pairs_stop : ∀ {ds es : List D} {i : Nat}, i ≤ (pairs ds es).length → i ≤ ds.length ∧ i ≤ es.length
  | _, _, 0, _ => ⟨Nat.zero_le _, Nat.zero_le _⟩
  | [], _, i + 1, h => by simp [pairs] at h
  | _ :: _, [], i + 1, h => by simp [pairs] at h
  | d :: ds, e :: es, i + 1, h => by
    have := pairs_stop (ds := ds) (es := es) (i := i) (by simpa [pairs] using h)
    simp only [List.length_cons]; omega
theorem yl_zipB {t u : Bool} (h : SqD G (x ++ m) t H a xs) (h' : SqD G (x ++ m) u H b ys) (r : RVs G (x ++ m) H ds xs) (r' : RVs G (x ++ m) H es ys) : Yl G x m H (ItzB t u G.K a b) (pairs ds es) := fun x2 m2 H2 hx E tr i => by
  have h2 := h.ext (x2 := x2) E
  have h2' := h'.ext (x2 := x2) E
  have r2 := r.keep (E.kp2 hx)
  have r2' := r'.keep (E.kp2 hx)
  refine ⟨fun d hd => ?_, fun hl => ⟨xs, ys, h2, h2', by rw [← r.len, ← r'.len]; exact pairs_get.2 (Nat.le_of_eq hl), by rw [← r.len]; exact (pairs_stop (Nat.le_of_eq hl.symm)).1, by rw [← r'.len]; exact (pairs_stop (Nat.le_of_eq hl.symm)).2⟩⟩
  obtain ⟨d1, d2, g1, g2, rfl⟩ := pairs_get.1 d hd
  obtain ⟨v, q1, q2⟩ := r2.get g1
  obtain ⟨v', q1', q2'⟩ := r2'.get g2
  refine ⟨⟨xs, ys, v, v', h2, h2', q1, q1'⟩, fun w H3 ⟨T, y1, y2, e1, e2, e3, e4, e5⟩ => ?_⟩
  have z1 := e4 xs h2
  have z2 := e5 ys h2'
  rw [q1] at z1
  rw [q1'] at z2
  cases z1
  cases z2
  subst e1 e3
  exact newPair e2 tr q2 q2'
end
def seqU : U → Option (List D)
  | .d (.tup xs) => some xs
  | .d (.lst xs) => some xs
  | _ => none
def zpBI (f g : ME) : MI := fun ρ S => (argsM [f, g] ρ S).bind fun us S1 => match us with
  | [u, v] => match seqU u, seqU v with
    | some xs, some ys => .ok (pairs xs ys) S1
    | _, _ => .un
  | _ => .un
theorem seqU_ok {G : Gc} {e m : List Addr} {H : Hp} {u : U} {v : V} {ds : List D} (r : RU G e m H u v) (h : seqU u = some ds) : ∃ t a xs, v = .ref a ∧ SqD G e t H a xs ∧ RVs G e H ds xs := by
  unfold seqU at h
  split at h
  · cases h
    cases r with
    | d r => cases r with
      | tup t1 t2 => exact ⟨true, _, _, rfl, t1, t2⟩
  · cases h
    cases r with
    | d r => cases r with
      | lst t1 tn t2 => exact ⟨false, _, _, rfl, ⟨t1, tn⟩, t2⟩
  · cases h
theorem SqD.b {G : Gc} {e : List Addr} {t : Bool} {H : Hp} {a : Addr} {xs : List V} (h : SqD G e t H a xs) : SqB t G.K H a xs := by
  cases t
  · exact .inl (.inl h.1)
  · exact h
section
variable {X : Cx} {T : List (Addr × Str)} {W : WX} {tg e e2 : Expr} {f g : ME} {p pos : Pos}
theorem i_zip2 {elts : List Expr} {kk : Nat} {tpos : Pos} (hm : X.mg "zip" = none) (ha : PA X [e, e2] (tA (gOf X T) W (argsM [f, g]))) (hg : Gl X "zip" := by rfl) (hs : starEach [e, e2] X.env = (false, eval e X.env) :: starEach [e2] X.env := by rfl) (hpl : (backTo pos (starEach [e2] X.env)).any (·.1) = false := by rfl) :
    PI X (.Tuple elts kk tpos) (.Call (.Name "zip" p) [e, e2] [] pos) (tI (gOf X T) W (zpBI f g)) := pi_mono (pi_zipB hg hm ha hs hpl) fun σ H R h => by
  obtain ⟨x, m, ρ, S, p, h⟩ := h
  refine ⟨x, m, ρ, S, p, (Post.bind h).mono fun us S1 m1 H1 E1 R1 ⟨_, _, h1⟩ vs rvs => ?_⟩
  split at h1
  · split at h1
    · rename_i xs ys q1 q2
      cases rvs with
      | cons r t => cases t with
        | cons r' t =>
          cases t
          obtain ⟨t, a, zs, rfl, s1, s2⟩ := seqU_ok r q1
          obtain ⟨t', b, zs', rfl, s3, s4⟩ := seqU_ok r' q2
          exact ⟨t, t', a, b, zs, zs', rfl, s1.b, s3.b, h1 m1 H1 Ext.refl R1 _ (yl_zipB s1 s3 s2 s4)⟩
    · exact h1.elim
  · exact h1.elim

/-! ### texts -/
def chs (x : Str) : List D := x.cps.toList.map fun c => .str ⟨#[c]⟩
def strI (f : ME) : MI := fun ρ S => (f ρ S).bind fun u S1 => match u with
  | .d (.str x) => .ok (chs x) S1
  | _ => .un
theorem yl_str {G : Gc} {x m : List Addr} {H : Hp} {z : Str} : Yl G x m H (Its z) (chs z) := fun x2 m2 H2 hx E tr i => by
  refine ⟨fun d hd => ?_, fun hl => (by show z.cps.size ≤ i; rw [← hl]; simp [chs])⟩
  unfold chs at hd
  rw [List.getElem?_map] at hd
  cases q : z.cps.toList[i]? with
  | none => rw [q] at hd; cases hd
  | some c =>
    rw [q] at hd
    cases hd
    have q' : z.cps[i]? = some c := by simpa using q
    refine ⟨(Array.getElem?_eq_some_iff.mp q').1, fun v H3 ⟨e1, c', e2, e3⟩ => ?_⟩
    subst e1 e3
    rw [q'] at e2
    cases e2
    exact ⟨Ext.refl, fun _ _ _ => rfl, .str _⟩
theorem i_str (he : PE X e (tE (gOf X T) W f)) : PI X tg e (tI (gOf X T) W (strI f)) := pi_mono (pi_str he) fun σ H R h => by
  obtain ⟨x, m, ρ, S, p, h⟩ := h
  refine ⟨x, m, ρ, S, p, (Post.bind h).mono fun u S1 m1 H1 E1 R1 ⟨_, _, h1⟩ v rv => ?_⟩
  split at h1
  · cases rv with
    | d r =>
      cases r
      exact ⟨_, rfl, h1 m1 H1 Ext.refl R1 _ yl_str⟩
  · exact h1.elim
def strG : List D → Option D
  | [.int i] => if i.natAbs.log2 < 1920 then some (.str (toString i)) else none
  | [.str x] => some (.str x)
  | _ => none
theorem c_str : CallR X (.type "str") (rC (gOf X T) strG) := by
  intro pins s σ H vs us Q I rs ⟨ds, z, e, m, hg, tr, r, q⟩
  unfold strG at hg
  split at hg
  · split at hg
    · rename_i hl
      cases hg
      obtain ⟨v, rfl, r1⟩ := r.one
      cases r1.int
      exact call_str_int pins s σ H _ us Q I rs ⟨_, rfl, hl, q _ _ Ext.refl (noKeep rfl) (.str _)⟩
    · cases hg
  · cases hg
    obtain ⟨v, rfl, r1⟩ := r.one
    cases r1.str
    exact SkE.call_str_str pins s σ H _ us Q I rs ⟨_, rfl, q _ _ Ext.refl (noKeep rfl) (.str _)⟩
  · cases hg

/-! ### methods of texts -/
def meM (g : D → List D → Option D) (fo : ME) (fs : List ME) : ME := fun ρ S => (fo ρ S).bind fun u S1 => match u with
  | .d (.str z) => (argsM fs ρ S1).bind fun us S2 => match rds S2 us with
    | some ds => match g (.str z) ds with
      | some z => .ok (.d z) S2
      | none => .un
    | none => .un
  | _ => .un
def rM (G : Gc) (g : D → List D → Option D) : V → List V → Hp → VK → Prop := fun v vs H Q => ∃ z ds d e m, v = .str z ∧ g (.str z) ds = some d ∧ (∀ b ∈ e, ∃ o, H b = some o) ∧ RTs G e H ds vs ∧
  ∀ H' w, Ext G m H m H' → (∀ a ∈ m, H a ≠ none → H' a = H a) → RV G e H' d w → Q w H'
theorem me_red {g : D → List D → Option D} {fs : List ME} {σ : St} {H : Hp} {Q : VK} (h : tE (gOf X T) W (meM g f fs) σ H Q) : tBM X.K "str" (rM (gOf X T) g) (tE (gOf X T) W f) (tA (gOf X T) W (argsM fs)) σ H Q := by
  obtain ⟨x, m, ρ, S, p, h⟩ := h
  refine ⟨x, m, ρ, S, p, (Post.bind h).mono fun u S1 m1 H1 E1 R1 ⟨_, _, h1⟩ v rv => ?_⟩
  cases u with
  | c _ => exact h1.elim
  | t _ => exact h1.elim
  | d dd =>
   cases dd with
   | str z =>
    cases rv with
    | d r =>
      cases r
      have p1 := p.ext E1 R1
      refine ⟨rfl, x, m1, ρ, S1, p1, (Post.bind h1).mono fun us S2 m2 H2 E2 R2 ⟨_, _, h2⟩ vs rvs => ?_⟩
      have p2 := p1.ext E2 R2
      split at h2
      · rename_i ds q1
        split at h2
        · rename_i d q3
          exact ⟨z, ds, d, x ++ m2, m2, rfl, q3, p2.trk, RUs.rts R2 rvs q1, fun H' w' E3 hs r => h2 m2 H' E3 (R2.stay E3 fun a ha => hs a ha (by obtain ⟨o, q⟩ := R2.live ha; rw [q]; simp)) w' (.d r)⟩
        · exact h2.elim
      · exact h2.elim
   | _ => exact h1.elim
theorem e_me {id : String} {name : Str} {g : D → List D → Option D} {o : Expr} {es : List Expr} {fs : List ME} {apos : Pos} (slot : Slot "str" name id) (hty : typeOf (.builtin id) = pure (.type "method_descriptor")) (hm : MtR X id (rM (gOf X T) g)) (ho : PE X o (tE (gOf X T) W f)) (ha : PA X (e :: es) (tA (gOf X T) W (argsM fs)))
    (hbase : attributeBase o name X.env (eval o X.env) = eval o X.env := by rfl)
    (hfew : ((backTo pos (starEach (e :: es) X.env)).all (fun x => !x.1) && (backToKw pos (keywordEach [] X.env)).all (fun x => x.1.isSome)
      && decide ((e :: es).length + ([] : List Keyword).length + (if ([] : List Keyword).isEmpty then 0 else 1) < 30)) = true := by rfl)
    (hline : (apos.endLine == pos.line) = true := by rfl) (hs : starEach (e :: es) X.env = (false, eval e X.env) :: starEach es X.env := by rfl) (hplain : (backTo pos (starEach es X.env)).any (·.1) = false := by rfl) :
    PE X (.Call (.Attribute o name apos) (e :: es) [] pos) (tE (gOf X T) W (meM g f fs)) :=
  pe_mono (pe_bm PySem.F.plainAttrs_str slot hty hm ho ha hbase hfew hline hs hplain) fun σ H Q h => me_red h
def joinG : D → List D → Option D
  | .str a, [.lst xs] => match strsOf xs with
    | some ys => if (ys.map (·.length)).sum + ys.length * a.length ≤ big then some (.str (Txt.join a ys)) else none
    | none => none
  | .str a, [.tup xs] => match strsOf xs with
    | some ys => if (ys.map (·.length)).sum + ys.length * a.length ≤ big then some (.str (Txt.join a ys)) else none
    | none => none
  | _, _ => none
theorem big_join {n : Nat} (h : n ≤ big) : n ≤ 16777216 := Nat.le_trans h (by decide)
theorem mt_joinG : MtR X "str.join" (rM (gOf X T) joinG) := by
  intro pins s σ H x xs v us Q I rx rs ⟨z, ds, d, e, m, ez, hg, tr, r, q⟩
  subst ez
  unfold joinG at hg
  split at hg
  · rename_i q1
    cases q1
    split at hg
    · rename_i ys hy
      split at hg
      · rename_i hl
        cases hg
        obtain ⟨v, rfl, r1⟩ := r.one
        obtain ⟨a, vs, rfl, g1, g2⟩ := r1.lst'
        cases g2.strs hy
        exact mt_join pins s σ H _ _ _ us Q I rx rs ⟨_, a, ys, rfl, rfl, .inl (.of g1), big_join hl, q _ _ Ext.refl (noKeep rfl) (.str _)⟩
      · cases hg
    · cases hg
  · rename_i q1
    cases q1
    split at hg
    · rename_i ys hy
      split at hg
      · rename_i hl
        cases hg
        obtain ⟨v, rfl, r1⟩ := r.one
        obtain ⟨a, vs, rfl, g1, g2⟩ := r1.tup
        cases g2.strs hy
        exact mt_join pins s σ H _ _ _ us Q I rx rs ⟨_, a, ys, rfl, rfl, .inr g1, big_join hl, q _ _ Ext.refl (noKeep rfl) (.str _)⟩
      · cases hg
    · cases hg
  · cases hg
def splG : D → List D → Option D
  | .str a, [.str b] => if b.length ≠ 0 ∧ a.length ≤ big then some (.lst ((Txt.split a b).map .str)) else none
  | _, _ => none
theorem rvs_strs {G : Gc} {e : List Addr} {H : Hp} : ∀ ns : List Str, RVs G e H (ns.map D.str) (ns.map V.str)
  | [] => .nil
  | n :: ns => .cons (.str n) (rvs_strs ns)
theorem mt_splG : MtR X "str.split" (rM (gOf X T) splG) := by
  intro pins s σ H x xs v us Q I rx rs ⟨z, ds, d, e, m, ez, hg, tr, r, q⟩
  subst ez
  unfold splG at hg
  split at hg
  · rename_i q1
    cases q1
    split at hg
    · rename_i hl
      cases hg
      obtain ⟨v, rfl, r1⟩ := r.one
      cases r1.str
      exact mt_split pins s σ H _ _ _ us Q I rx rs ⟨_, _, rfl, rfl, by simpa using hl.1, Nat.le_trans (Nat.add_le_add_right hl.2 2) (by rw [sizeLine_eq]; decide), fun p np => q _ _ (Ext.new np) (newKeep np) (RV.newLst (rvs_strs _) np tr)⟩
    · cases hg
  · cases hg
abbrev joiM (f g : ME) : ME := meM joinG f [g]
abbrev splM (f g : ME) : ME := meM splG f [g]

/-! ### a dict of the module: texts as keys -/
def dlk : List (Str × D) → Str → Option D
  | [], _ => none
  | (k, v) :: r, x => if k = x then some v else dlk r x
structure KM (G : Gc) (x : Str) (tbl : List (Str × D)) : Prop where
  ex : ∃ (a : Addr) (es : Array DictEntry) (n : Nat), G.mg x = some (.ref a) ∧ G.K.lookup a = some ⟨.type "dict", none, .dict es n, #[]⟩ ∧ PySem.W.KeysLit G.w.params es.toList ∧ (a == sysModules) = false ∧
    ∀ z, ∃ r, PySem.W.nsIn G.K a z = some r ∧ match dlk tbl z with
      | none => r = none
      | some d => ∃ u v, r = some u ∧ RelV v u ∧ ∀ e H, RV G e H d v
def kmIx (tbl : List (Str × D)) (f : ME) : ME := fun ρ S => (f ρ S).bind fun u S1 => match u with
  | .d (.str z) => match dlk tbl z with
    | some d => .ok (.d d) S1
    | none => .un
  | _ => .un
def kmIn (tbl : List (Str × D)) (f : ME) : ME := fun ρ S => (f ρ S).bind fun u S1 => match u with
  | .d (.str z) => .ok (.d (.bl (dlk tbl z).isSome)) S1
  | _ => .un
theorem e_kmIx {x : Str} {tbl : List (Str × D)} {b : Expr} {px : Pos} (h : KM (gOf X T) x tbl) (hb : PE X b (tE (gOf X T) W f)) (hg : Gl X x := by rfl) (hd : (x == ("__debug__" : Str)) = false := by decide) (hs : PlainIx b := by intro _ _; rfl) :
    PE X (.Subscript (.Name x px) b pos) (tE (gOf X T) W (kmIx tbl f)) := by
  obtain ⟨a, es, n, h1, h2, h3, h4, h5⟩ := h.ex
  refine pe_mono (pe_ix (r := fun vx vy H Q => vx = .ref a ∧ ∃ z v, vy = .str z ∧ KDct X.K X.w a z v ∧ Q v H) (fun value slice pins s σ H x y v u Q I rx ry h hs => ?_) (pe_glob hg h1 (v := .ref a) rfl hd) hb hs) fun σ H Q h => ?_
  · obtain ⟨e1, z, r, e2, e3, q⟩ := h
    exact ix_kdict value slice pins s σ H x y v u Q I rx ry ⟨a, z, r, e1, e2, e3, q⟩ hs
  · obtain ⟨y, m, ρ, S, p, h⟩ := h
    refine ⟨y, m, ρ, S, p, (Post.bind h).mono fun u S1 m1 H1 E1 R1 ⟨_, _, h1'⟩ v rv => ?_⟩
    cases u with
    | c _ => exact h1'.elim
    | t _ => exact h1'.elim
    | d dd =>
     cases dd with
     | str z =>
      cases rv with
      | d r =>
        cases r
        dsimp only at h1'
        split at h1'
        · rename_i d hd'
          obtain ⟨r, r1, r2⟩ := h5 z
          rw [hd'] at r2
          obtain ⟨u, v, rfl, r3, r4⟩ := r2
          exact ⟨rfl, z, v, rfl, ⟨es, n, u, h2, h3, r1, r3⟩, h1' m1 H1 Ext.refl R1 _ (.d (r4 _ _))⟩
        · exact h1'.elim
     | _ => exact h1'.elim
theorem e_kmIn {x : Str} {tbl : List (Str × D)} {b : Expr} {px : Pos} (h : KM (gOf X T) x tbl) (hb : PE X b (tE (gOf X T) W f)) (hg : Gl X x := by rfl) (hd : (x == ("__debug__" : Str)) = false := by decide) :
    PE X (.Compare b [.In] [.Name x px] pos) (tE (gOf X T) W (kmIn tbl f)) := by
  obtain ⟨a, es, n, h1, h2, h3, h4, h5⟩ := h.ex
  refine pe_mono (pe_cmpR (op_in_kd ⟨h2, h3, h4⟩) hb (pe_glob hg h1 (v := .ref a) rfl hd) (by first | exact nomark _ | rfl)) fun σ H Q h => ?_
  obtain ⟨y, m, ρ, S, p, h⟩ := h
  refine ⟨y, m, ρ, S, p, (Post.bind h).mono fun u S1 m1 H1 E1 R1 ⟨_, _, h1'⟩ v rv => ?_⟩
  cases u with
  | c _ => exact h1'.elim
  | t _ => exact h1'.elim
  | d dd =>
   cases dd with
   | str z =>
    cases rv with
    | d r =>
      cases r
      obtain ⟨r, r1, r2⟩ := h5 z
      refine ⟨z, r, rfl, rfl, r1, ?_⟩
      have er : r.isSome = (dlk tbl z).isSome := by
        revert r2
        cases dlk tbl z with
        | none => intro r2; subst r2; rfl
        | some d => rintro ⟨u, v, rfl, _⟩; rfl
      rw [er]
      exact h1' m1 H1 Ext.refl R1 _ (.d (.bl _))
   | _ => exact h1'.elim
end
end Mir

/-! Mir16: the end: constants of the module; the law's own promise. -/
namespace Mir
open PySem PySem.Spec PyProof.Rows L2 RZ
mutual
/-- data of the module -/
inductive KVal (K : PySem.W.Frag) : D → Value → Prop
  | non : KVal K .non .none
  | bl (b : Bool) : KVal K (.bl b) (.bool b)
  | int (i : Int) (t : Tok) : KVal K (.int i) (.int i t)
  | str (x : Str) (t : Tok) : KVal K (.str x) (.str x t)
  | tup {a : Addr} {dd : Option Addr} {its : Array Value} {n : Nat} {sl : Array (Option Value)} {ds : List D} : K.lookup a = some ⟨.type "tuple", dd, .seq its n, sl⟩ → its.size ≤ 1000 → KVals K ds its.toList → KVal K (.tup ds) (.ref a)
inductive KVals (K : PySem.W.Frag) : List D → List Value → Prop
  | nil : KVals K [] []
  | cons {d : D} {u : Value} {ds : List D} {us : List Value} : KVal K d u → KVals K ds us → KVals K (d :: ds) (u :: us)
end
section
variable {G : Gc}
mutual
theorem KVal.ok : ∀ {d : D} {u : Value}, KVal G.K d u → ∃ v, RelV v u ∧ ∀ e H, RV G e H d v
  | _, _, .non => ⟨.non, rfl, fun _ _ => .non⟩
  | _, _, .bl b => ⟨.bl b, rfl, fun _ _ => .bl b⟩
  | _, _, .int i t => ⟨.int i, ⟨t, rfl⟩, fun _ _ => .int i⟩
  | _, _, .str x t => ⟨.str x, ⟨t, rfl⟩, fun _ _ => .str x⟩
  | _, _, .tup (a := a) (its := its) h1 h2 h3 => by
    obtain ⟨vs, h4, h5⟩ := KVals.ok h3
    exact ⟨.ref a, rfl, fun e H => .tup (.inr ⟨_, its, _, h1, rfl, rfl, Nat.le_of_lt (small1000 h2), h4⟩) (h5 e H)⟩
theorem KVals.ok : ∀ {ds : List D} {us : List Value}, KVals G.K ds us → ∃ vs, Vals vs us ∧ ∀ e H, RVs G e H ds vs
  | _, _, .nil => ⟨[], .nil, fun _ _ => .nil⟩
  | _, _, .cons h t => by
    obtain ⟨v, h1, h2⟩ := KVal.ok h
    obtain ⟨vs, h3, h4⟩ := KVals.ok t
    exact ⟨v :: vs, .cons h1 h3, fun e H => .cons (h2 e H) (h4 e H)⟩
end
end
section
variable {P : Program} {w : World} {K : PySem.W.Frag} {mg : Str → Option Value} {T : List (Addr × Str)} {h : Heap} {x : Str}
theorem kd_of {d : D} {u : Value} (X : K.In h) (G : h.Ns mainGlobals mg) (a : PySem.W.nsIn K mainGlobals x = some (some u)) (q : KVal K d u) : KD ⟨P, w, K, mg, T⟩ x d := by
  obtain ⟨v, h1, h2⟩ := KVal.ok (G := ⟨P, w, K, mg, T⟩) q
  exact ⟨u, v, PySem.W.mg_of X G a, h1, h2⟩
/-- the values of a written dict -/
inductive KEnts (K : PySem.W.Frag) : List (Str × D) → List DictEntry → Prop
  | nil : KEnts K [] []
  | cons {x : Str} {d : D} {e : DictEntry} {t : Tok} {ds : List (Str × D)} {es : List DictEntry} : e.key = .str x t → KVal K d e.val → KEnts K ds es → KEnts K ((x, d) :: ds) (e :: es)
theorem kents_find : ∀ {tbl : List (Str × D)} {es : List DictEntry} (z : Str), KEnts K tbl es → match dlk tbl z with
    | none => es.find? (fun e => e.key.isStr z) = none ∧ es.any (·.refKey) = false
    | some d => ∃ e, es.find? (fun e => e.key.isStr z) = some e ∧ KVal K d e.val
  | _, _, z, .nil => ⟨rfl, rfl⟩
  | _, _, z, .cons (x := y) (d := d) (e := e) (t := t) h1 h2 h3 => by
    have ih := kents_find z h3
    have hk : e.key.isStr z = (y == z) := by
      rw [PySem.W.isStr_of, h1]; rfl
    have hr : e.refKey = false := by
      unfold DictEntry.refKey
      rw [h1]
    unfold dlk
    by_cases q : y = z
    · rw [if_pos q]
      exact ⟨e, by rw [List.find?_cons, hk, beq_iff_eq.mpr q], h2⟩
    · rw [if_neg q]
      have q' : (y == z) = false := beq_eq_false_iff_ne.mpr q
      revert ih
      cases dlk _ z with
      | none => exact fun ih => ⟨by rw [List.find?_cons, hk, q']; exact ih.1, by rw [List.any_cons, hr]; exact ih.2⟩
      | some d' => exact fun ⟨e', h4, h5⟩ => ⟨e', by rw [List.find?_cons, hk, q']; exact h4, h5⟩
theorem km_of {tbl : List (Str × D)} {a : Addr} {es : Array DictEntry} {n : Nat} (X : K.In h) (G : h.Ns mainGlobals mg) (g : PySem.W.nsIn K mainGlobals x = some (some (.ref a))) (l : K.lookup a = some ⟨.type "dict", none, .dict es n, #[]⟩) (kl : PySem.W.KeysLit w.params es.toList)
    (lo : (a == sysModules) = false) (q : KEnts K tbl es.toList) : KM ⟨P, w, K, mg, T⟩ x tbl := by
  refine ⟨a, es, n, PySem.W.mg_of X G g, l, kl, lo, fun z => ?_⟩
  have hf := kents_find z q
  have hn : PySem.W.nsIn K a z = match es.toList.find? (fun e => e.key.isStr z) with
      | some e => some (some e.val)
      | none => if es.toList.any (·.refKey) then none else some none := by
    unfold PySem.W.nsIn
    rw [l]
    rfl
  revert hf
  cases dlk tbl z with
  | none =>
    rintro ⟨h1, h2⟩
    exact ⟨none, by rw [hn, h1, h2]; rfl, rfl⟩
  | some d =>
    rintro ⟨e, h1, h2⟩
    obtain ⟨v, h3, h4⟩ := KVal.ok (G := ⟨P, w, K, mg, T⟩) h2
    exact ⟨some e.val, by rw [hn, h1], e.val, v, rfl, h3, h4⟩
end
/-! ### the law -/
/-- what is promised of law: of a script that nobody changes, True -/
def spLaw (K : PySem.W.Frag) : Sp := fun vs H Q _ => ∃ (a : Addr) (ns : List Int), vs = [.ref a] ∧ ns.length ≤ 63 ∧ Sc K H a ns ∧ ∀ H', Q (.bl true) H'
theorem sc_of {K : PySem.W.Frag} {H : Hp} {a : Addr} {ns : List Int} (hO : Only H) (hS : SqL K H a (ns.map V.int)) : Sc K H a ns := by
  rcases hS with (h | h) | h
  · rcases hO a with z | ⟨o, xs, z⟩
    · rw [z] at h; cases h
    · rw [z] at h; cases h
  · exact .inl h
  · exact .inr h
theorem law_imp {P : Program} {w : World} {K : PySem.W.Frag} {mg : Str → Option Value} {base : Heap} {k : Nat} {f : Addr} {fd : FuncData} {F : List D → R} (h : FnOk P w K mg base (L2.CX P w) k f fd ["script"] (sp0 ⟨P, w, K, mg, []⟩ 1 F))
    (hF : ∀ ns : List Int, ns.length ≤ 63 → F [.scr ns] = .ok (.bl true)) : FnOk P w K mg base (L2.CX P w) k f fd ["script"] (spLaw K) := h.imp fun vs H Q E ⟨a, ns, e, hl, hS, hQ⟩ => by
  subst e
  refine ⟨rfl, [], [.scr ns], fun _ z => (by cases z), fun _ z => (by cases z), .cons (.scr hS) .nil, ?_⟩
  rw [hF ns hl]
  intro H' v _ r
  cases r
  exact hQ H'
theorem cx_none {P : Program} {w : World} {H : Hp} {s : Shared} {e : Value} {s' : Shared} (h : L2.CX P w [] H s (fun _ _ _ => False) e s') : False := by
  obtain ⟨_, _, _, _, _, _, _, _, _, _, _, _, h⟩ := h
  exact h
theorem kn_of {P : Program} {w : World} {K : PySem.W.Frag} {mg : Str → Option Value} {base : Heap} {T : List (Addr × Str)} {h : Heap} {j k : Nat} {x : Str} {f : Addr} {fd : FuncData} {ps : List Str} {sp : Sp} (X : K.In h) (G : h.Ns mainGlobals mg) (hF : FnOk P w K mg base (L2.CX P w) j f fd ps sp) (a : PySem.W.nsIn K mainGlobals x = some (some (.ref f))) (kp : PySem.W.keepIn K (.ref f) = true) (b : Binds K fd ps []) (hk : j ≤ k) :
    Kn ⟨P, w, K, mg, T⟩ base k x sp := ⟨f, fd, ps, hF.mono hk, PySem.W.mg_of X G a, kp, b⟩
end Mir

/-! Mir17: a comprehension's list as a cell. -/
namespace Mir
open PySem PySem.Spec PyProof.Rows L2 RZ
def nlcM (it : MI) (tg : Tg) (t : MT) (f : ME) (own : List Nat) : ME := fun ρ S => (it ρ S).bind fun ds S1 =>
  if ds.length ≤ big then match lcL tg t f (wipeE ρ own) ds S1 with
    | .ok ys S2 => .ok (.c S2.length) (S2 ++ [.lst ys])
    | _ => .un
  else .un
section
variable {X : Cx} {T : List (Addr × Str)} {W : WX}
theorem nlc_red {fi : MI} {t : MT} {f : ME} {tgt : Tg} {own : List Nat} (ho : ∀ i ∈ tgt.ix, i ∈ own) {σ : St} {H : Hp} {Q : VK} (h : tE (gOf X T) W (nlcM fi tgt t f own) σ H Q) :
    tLc (tI (gOf X T) W fi) (gT X.K tgt) (tT (gOf X T) WF t) (tE (gOf X T) WF f) own σ H Q := by
  obtain ⟨x, m, ρ, S, p, h⟩ := h
  refine ⟨x, m, ρ, S, p, (Post.bind h).mono fun ds S1 m1 H1 E1 R1 ⟨_, _, h1⟩ J hJ => fun D₀ hD => ?_⟩
  have p1 := p.ext E1 R1
  split at h1
  case isFalse => exact h1.elim
  case isTrue hbig =>
  cases hL : lcL tgt t f (wipeE ρ own) ds S1 with
  | un => rw [hL] at h1; exact h1.elim
  | ex ee S' => rw [hL] at h1; exact h1.elim
  | ok ys Sf =>
    rw [hL] at h1
    refine ⟨fun i k H2 => ∃ m2 S2 acc vacc rest, k = ds.length - i ∧ i ≤ ds.length ∧ Ext (gOf X T) m1 H1 m2 H2 ∧ Rp (gOf X T) (D₀ :: x) m2 H2 (wipeE ρ own) S2 (L2.wipe σ own) ∧ H2 D₀ = some (.lst vacc) ∧
      RVs (gOf X T) (D₀ :: x ++ m2) H2 acc vacc ∧ vacc.length ≤ i ∧ lcL tgt t f (wipeE ρ own) (ds.drop i) S2 = .ok rest Sf ∧ ys = acc ++ rest ∧ D₀ ∉ m2,
      ⟨ds.length, m1, S1, [], [], ys, by simp, Nat.zero_le _, Ext.new hD, ⟨(RE.wipeS own p1.env).keep (Keep.hide hD), R1.keep (Keep.hide hD) (fun b hb => List.mem_cons_of_mem _ (List.mem_append_right _ hb)) (fun a ha => by
          obtain ⟨u, q⟩ := R1.live ha
          rw [upd_ne (ne_of_none q hD)]) (fun b y q => by rw [upd_ne (ne_of_none q hD)]; exact q), fun b hb => ?_, p1.tab.ext fun b u q => by rw [upd_ne (ne_of_none q hD)]; exact q⟩, upd_same, .nil, Nat.zero_le _, by rw [List.drop_zero]; exact hL, rfl, fun z => by
          obtain ⟨u, q⟩ := R1.live z
          rw [hD] at q; cases q⟩, ?_⟩
    · rcases List.mem_cons.mp hb with z | z
      · rw [z]; exact ⟨_, upd_same, fun ps z => by cases z⟩
      · obtain ⟨u, q, qn⟩ := p1.ex b z
        exact ⟨u, by rw [upd_ne (ne_of_none q hD)]; exact q, qn⟩
    rintro i k H2 ⟨m2, S2, acc, vacc, rest, rfl, hi, E2, p2, hd2, r2, hv, hl, hy, nD⟩
    have hY := hJ (D₀ :: x) m2 H2 (fun b hb => by
      rcases List.mem_cons.mp hb with z | z
      · exact .inr (by rw [z]; exact hD)
      · exact .inl z) E2 p2.trk i
    by_cases hlt : i < ds.length
    · obtain ⟨hgo, hyl⟩ := hY.1 ds[i] (List.getElem?_eq_getElem hlt)
      rw [List.drop_eq_getElem_cons hlt] at hl
      simp only [lcL] at hl
      refine .inr ⟨hgo, fun H3 => ∃ m3 S3 acc vacc rest, Ext (gOf X T) m1 H1 m3 H3 ∧ Rp (gOf X T) (D₀ :: x) m3 H3 (wipeE ρ own) S3 (L2.wipe σ own) ∧ H3 D₀ = some (.lst vacc) ∧
        RVs (gOf X T) (D₀ :: x ++ m3) H3 acc vacc ∧ vacc.length ≤ i + 1 ∧ lcL tgt t f (wipeE ρ own) (ds.drop (i + 1)) S3 = .ok rest Sf ∧ ys = acc ++ rest ∧ D₀ ∉ m3,
        fun H3 ⟨m3, S3, acc, vacc, rest, a1, a2, a3, a4, a5, a6, a7, a8⟩ => ⟨ds.length - (i + 1), by omega, m3, S3, acc, vacc, rest, rfl, hlt, a1, a2, a3, a4, a5, a6, a7, a8⟩, fun v H3 yv => ?_⟩
      obtain ⟨E3, k3, r3⟩ := hyl v H3 yv
      have R3 : RS (gOf X T) (D₀ :: x ++ m2) m2 H3 S2 := p2.sto.stay E3 fun a ha => k3 a ha (by obtain ⟨o, q⟩ := p2.sto.live ha; rw [q]; simp)
      have p3 := p2.ext E3 R3
      cases hs : setT tgt ds[i] (wipeE ρ own) with
      | none => rw [hs] at hl; cases hl
      | some ρ' =>
        rw [hs] at hl
        dsimp only at hl
        refine tg_ok r3 p3.env hs ho fun σ' re' hw => ⟨by rw [hw, wipe_idem], ?_⟩
        have q3 : Rp (gOf X T) (D₀ :: x) m2 H3 ρ' S2 σ' := ⟨re', R3, p3.ex, p3.tab⟩
        have nD' : ∀ {m m' : List Addr} {H H' : Hp}, Ext (gOf X T) m H m' H' → D₀ ∉ m → Nt H D₀ → D₀ ∉ m' := fun E n q z => by
          obtain ⟨nw, e1, f1⟩ := E.pre
          rw [e1] at z
          rcases List.mem_append.mp z with z | z
          · exact n z
          · exact f1 _ z q
        have d3 : H3 D₀ = some (.lst vacc) := E3.keep _ _ hd2 nD (fun ps z => by cases z)
        refine ⟨D₀ :: x, m2, ρ', S2, q3, ?_⟩
        cases ht : t ρ' S2 with
        | un => rw [ht] at hl; cases hl
        | ex ee S' => rw [ht] at hl; cases hl
        | ok b S3 =>
          rw [ht] at hl
          intro m4 H4 E4 R4
          have q4 := q3.ext E4 R4
          have d4 : H4 D₀ = some (.lst vacc) := E4.keep _ _ d3 nD (fun ps z => by cases z)
          have n4 := nD' E4 nD ⟨_, d3, fun ps z => by cases z⟩
          cases b with
          | false =>
            refine iteF ⟨m4, S3, acc, vacc, rest, (E2.trans E3).trans E4, ⟨(p3.ext E4 R4).env, R4, (p3.ext E4 R4).ex, (p3.ext E4 R4).tab⟩, d4, r2.keep ((E3.trans E4).kp), by omega, hl, hy, n4⟩
          | true =>
            refine iteT ⟨D₀ :: x, m4, ρ', S3, q4, ?_⟩
            dsimp only at hl
            cases hf : f ρ' S3 with
            | un => rw [hf] at hl; cases hl
            | ex ee S' => rw [hf] at hl; cases hl
            | ok u S4 =>
              rw [hf] at hl
              cases u with
              | c j => cases hl
              | t j => cases hl
              | d y =>
                dsimp only at hl
                cases hr : lcL tgt t f (wipeE ρ own) (ds.drop (i + 1)) S4 with
                | un => rw [hr] at hl; cases hl
                | ex ee S' => rw [hr] at hl; cases hl
                | ok rest' S5 =>
                  rw [hr] at hl
                  cases hl
                  intro m5 H5 E5 R5 w rw'
                  have d5 : H5 D₀ = some (.lst vacc) := E5.keep _ _ d4 n4 (fun ps z => by cases z)
                  have n5 := nD' E5 n4 ⟨_, d4, fun ps z => by cases z⟩
                  have E35 := (E3.trans E4).trans E5
                  have p5 := p2.ext E35 R5
                  have kg : Keep (gOf X T) (D₀ :: x ++ m5) H5 (D₀ :: x ++ m5) (upd H5 D₀ (.lst (vacc ++ [w]))) := Keep.grow d5 List.mem_cons_self
                  refine ⟨vacc, d5, Nat.lt_of_le_of_lt hv (Nat.lt_of_lt_of_le hlt (big_ok hbig)), m5, S4, acc ++ [y], vacc ++ [w], rest', (E2.trans E35).grow hD d5, ⟨p5.env.keep kg, R5.keep kg (fun b hb => List.mem_append_right _ hb) (fun a ha => upd_ne fun z => n5 (z ▸ ha)) (fun b y q => by
                      rw [upd_ne (fun z => by rw [z, d5] at q; cases q)]; exact q), fun b hb => ?_, ?_⟩, upd_same, ?_, by simp; omega, hr, by rw [hy]; simp, n5⟩
                  · by_cases z : b = D₀
                    · rw [z]; exact ⟨_, upd_same, fun ps z => by cases z⟩
                    · obtain ⟨o, q, qn⟩ := p5.ex b hb
                      exact ⟨o, by rw [upd_ne z]; exact q, qn⟩
                  · exact ((E2.trans E35).grow hD d5).tab p1.tab
                  · refine (RVs.append (r2.keep E35.kp) (.cons ?_ .nil)).keep kg
                    cases rw' with
                    | d r => exact r
    · have e : i = ds.length := by omega
      rw [e, List.drop_length] at hl
      cases hl
      rw [List.append_nil] at hy
      subst hy
      refine .inl ⟨hY.2 (by omega), ?_⟩
      have ks : Keep (gOf X T) (D₀ :: x ++ m2) H2 (x ++ (m2 ++ [D₀])) H2 := keep_sub fun a ha => by
        rcases List.mem_append.mp ha with z | z
        · exact List.mem_append_left _ (List.mem_cons_of_mem _ z)
        · rcases List.mem_append.mp z with z | z
          · exact List.mem_append_right _ z
          · have : a = D₀ := by simpa using z
            rw [this]; exact List.mem_append_left _ List.mem_cons_self
      have E3 : Ext (gOf X T) m1 H1 (m2 ++ [D₀]) H2 := by
        refine ⟨E2.keep, E2.tups, E2.frzs, E2.owns, E2.live, ?_, E2.tab⟩
        obtain ⟨nw, e1, f1⟩ := E2.pre
        refine ⟨nw ++ [D₀], by rw [e1, List.append_assoc], fun b hb => ?_⟩
        rcases List.mem_append.mp hb with z | z
        · exact f1 b z
        · have : b = D₀ := by simpa using z
          rw [this]; exact fun ⟨u, q, _⟩ => by rw [hD] at q; cases q
      have R3 : RS (gOf X T) (x ++ (m2 ++ [D₀])) (m2 ++ [D₀]) H2 (Sf ++ [.lst ys]) := by
        have q := p2.sto.keep ks (fun b hb => List.mem_append_right _ (List.mem_append_left _ hb)) (fun _ _ => rfl) fun _ _ q => q
        refine ⟨by simp [q.len], List.nodup_append.mpr ⟨q.nd, by simp, fun a ha b hb z => ?_⟩, fun b hb => List.mem_append_right _ hb, fun i a c h1 h2 => ?_⟩
        · have : b = D₀ := by simpa using hb
          rw [z, this] at ha
          exact nD ha
        · by_cases hi : i < m2.length
          · rw [List.getElem?_append_left hi] at h1
            rw [List.getElem?_append_left (by rw [← q.len]; exact hi)] at h2
            exact q.at' i a c h1 h2
          · have e1 : i = m2.length := by
              have := (List.getElem?_eq_some_iff.mp h1).1
              simp at this
              omega
            subst e1
            rw [List.getElem?_append_right (Nat.le_refl _), Nat.sub_self] at h1
            rw [q.len, List.getElem?_append_right (Nat.le_refl _), Nat.sub_self] at h2
            have e2 : D₀ = a := Option.some.inj h1
            have e3 : Cell.lst ys = c := Option.some.inj h2
            subst e2 e3
            exact ⟨_, hd2, .lst (r2.keep ks)⟩
      exact h1 (m2 ++ [D₀]) H2 E3 R3 _ (.c (by rw [← p2.sto.len]; simp))
variable {elt tg iter : Expr} {ifs : List Expr} {scope : Scope} {own : List (Str × Nat)} {pos spos : Pos} {fi : MI} {t : MT} {f : ME}
theorem e_nlc (tgt : Tg) (own : List (Str × Nat)) (hc : X.calm = true) (hN : X.N.Nodup) (hi : PI X tg iter (tI (gOf X T) W fi)) (ok : BlkOk X.N X.env.scope scope own)
    (hg : ∀ (s : Shared) (H : Hp) (C : Addr) (cl : List (Str × Addr)) (fp : List Addr), PG (X.blk s H scope (compEnvC scope cl C X.env) fp) tg (gT X.K tgt))
    (ht : ∀ (s : Shared) (H : Hp) (C : Addr) (cl : List (Str × Addr)) (fp : List Addr), Takes (X.blk s H scope (compEnvC scope cl C X.env) fp) WF → PTs (X.blk s H scope (compEnvC scope cl C X.env) fp) ifs (tT (gOf (X.blk s H scope (compEnvC scope cl C X.env) fp) T) WF t))
    (he : ∀ (s : Shared) (H : Hp) (C : Addr) (cl : List (Str × Addr)) (fp : List Addr), Takes (X.blk s H scope (compEnvC scope cl C X.env) fp) WF → PE (X.blk s H scope (compEnvC scope cl C X.env) fp) elt (tE (gOf (X.blk s H scope (compEnvC scope cl C X.env) fp) T) WF f))
    (ho : ∀ i ∈ tgt.ix, i ∈ own.map (·.2)) (hs : ∀ x, foldedSetIterable iter X.env x = pure x := by intro _; rfl) : PE X (.ListComp elt [⟨tg, iter, ifs, 0⟩] scope pos) (tE (gOf X T) W (nlcM fi tgt t f (own.map (·.2)))) :=
  pe_mono (pe_lc hc hN hi ok hg (fun s H C cl fp => ht s H C cl fp takes0) (fun s H C cl fp => he s H C cl fp takes0) hs) fun σ H Q h => nlc_red ho h
theorem s_nlc (i : Nat) (tgt : Tg) (own : List (Str × Nat)) {y : Str} {py : Pos} (hc : X.calm = true) (hN : X.N.Nodup) (hi : PI X tg iter (tI (gOf X T) W fi)) (ok : BlkOk X.N X.env.scope scope own)
    (hg : ∀ (s : Shared) (H : Hp) (C : Addr) (cl : List (Str × Addr)) (fp : List Addr), PG (X.blk s H scope (compEnvC scope cl C X.env) fp) tg (gT X.K tgt))
    (ht : ∀ (s : Shared) (H : Hp) (C : Addr) (cl : List (Str × Addr)) (fp : List Addr), Takes (X.blk s H scope (compEnvC scope cl C X.env) fp) WF → PTs (X.blk s H scope (compEnvC scope cl C X.env) fp) ifs (tT (gOf (X.blk s H scope (compEnvC scope cl C X.env) fp) T) WF t))
    (he : ∀ (s : Shared) (H : Hp) (C : Addr) (cl : List (Str × Addr)) (fp : List Addr), Takes (X.blk s H scope (compEnvC scope cl C X.env) fp) WF → PE (X.blk s H scope (compEnvC scope cl C X.env) fp) elt (tE (gOf (X.blk s H scope (compEnvC scope cl C X.env) fp) T) WF f))
    (ho : ∀ i ∈ tgt.ix, i ∈ own.map (·.2)) (hsw : swapsWith (.ListComp elt [⟨tg, iter, ifs, 0⟩] scope pos) (some (.Name y py)) spos.line X.env = pure true) (hy : X.N[i]? = some y := by rfl) (hyl : X.env.scope.names.lookup y = some .local := by rfl) (hs : ∀ x, foldedSetIterable iter X.env x = pure x := by intro _; rfl) :
    PS X (.Assign [.Name y py] (.ListComp elt [⟨tg, iter, ifs, 0⟩] scope pos) spos) (tS (gOf X T) W (asgM (nlcM fi tgt t f (own.map (·.2))) (namG i))) :=
  ps_mono (ps_setLc hc hN hy hyl hsw hi ok hg (fun s H C cl fp => ht s H C cl fp takes0) (fun s H C cl fp => he s H C cl fp takes0) hs) fun Dn σ H h => by
    refine nlc_red (W := W) (f := f) (t := t) ho ?_
    obtain ⟨x, m, ρ, S, p, h⟩ := h
    refine ⟨x, m, ρ, S, p, (Post.toS h p).mono fun u S1 m1 H1 E1 R1 ⟨_, _, h1⟩ v rv => ?_⟩
    have p1 := p.ext E1 R1
    exact h1 m1 H1 _ Ext.refl ⟨p1.env.set rv i, p1.sto, p1.ex, p1.tab⟩
end
end Mir

/-! Mir18: try and its clauses. -/
namespace Mir
open PySem PySem.Spec PyProof.Rows L2 RZ
/-- is the class x one of y: by names -/
def slk : List (Str × Str × Bool) → Str → Str → Option Bool
  | [], _, _ => none
  | (a, b, r) :: t, x, y => if a = x ∧ b = y then some r else slk t x y
def XS (G : Gc) (tbl : List (Str × Str × Bool)) : Prop := ∀ p ∈ tbl, ∃ C D, G.mg p.1 = some (.ref C) ∧ G.mg p.2.1 = some (.ref D) ∧ PySem.W.exmOne G.K (.ref C) (.ref D) = some p.2.2
theorem slk_ok {G : Gc} : ∀ {tbl : List (Str × Str × Bool)} {x y : Str} {b : Bool}, XS G tbl → slk tbl x y = some b → ∃ C D, G.mg x = some (.ref C) ∧ G.mg y = some (.ref D) ∧ PySem.W.exmOne G.K (.ref C) (.ref D) = some b
  | [], _, _, _, _, h => by simp [slk] at h
  | (a, c, r) :: t, x, y, b, hx, h => by
    unfold slk at h
    split at h
    · rename_i e
      obtain ⟨rfl, rfl⟩ := e
      cases h
      exact hx _ List.mem_cons_self
    · exact slk_ok (fun p hp => hx p (List.mem_cons_of_mem _ hp)) h
def noX : SO → SO
  | .ex _ _ _ => .un
  | o => o
def hndM (tbl : List (Str × Str × Bool)) : List (Str × MS) → Exn → MS
  | [], e, ρ, S => .ex e ρ S
  | (y, g) :: r, e, ρ, S => match slk tbl e.cls y with
    | some true => noX (g ρ S)
    | some false => hndM tbl r e ρ S
    | none => .un
def tryM (tbl : List (Str × Str × Bool)) (f : MS) (hs : List (Str × MS)) : MS := fun ρ S => match f ρ S with
  | .ex e ρ' S' => hndM tbl hs e ρ' S'
  | o => o
section
variable {X : Cx} {T : List (Addr × Str)} {W : WX}
/-- the clauses and what stands for them -/
inductive MHds (X : Cx) (T : List (Addr × Str)) : List ExceptHandler → List (Str × MS) → List (Value × (Addr → Value → Option Addr → TS)) → Prop
  | nil : MHds X T [] [] []
  | cons {x : Str} {C : Addr} {g : MS} {b₀ : Stmt} {suite : List Stmt} {np pos' : Pos} {hds : List ExceptHandler} {hs : List (Str × MS)} {l : List (Value × (Addr → Value → Option Addr → TS))} (hm : X.mg x = some (.ref C)) (hg : Gl X x) (hd : (x == ("__debug__" : Str)) = false)
      (hsu : ∀ (a : Addr) (oe : Obj) (pn : List (Addr × Obj)), PSs (X.suite a ((a, oe) :: pn)) (b₀ :: suite) (tS (gOf (X.suite a ((a, oe) :: pn)) T) WF g)) (r : MHds X T hds hs l) :
      MHds X T (.ExceptHandler (some (.Name x np)) none (b₀ :: suite) pos' :: hds) ((x, g) :: hs) ((.ref C, fun _ _ _ => tS (gOf X T) WF g) :: l)
theorem MHds.hds {hds : List ExceptHandler} {hs : List (Str × MS)} {l : List (Value × (Addr → Value → Option Addr → TS))} (h : MHds X T hds hs l) : HdsOk X hds l := by
  induction h with
  | nil => exact .nil
  | cons hm hg hd hsu r ih => exact .cons ⟨hg, hd, .inl hm⟩ (fun a oe cls d pn _ _ => hsu a oe pn) ih
theorem noX_post {G : Gc} {x m : List Addr} {H : Hp} {o : SO} {Dn : Ends} (h : PostS G W x m H (noX o) Dn) : PostS G WF x m H o Dn := by
  cases o with
  | ex e ρ S => exact h.elim
  | nx _ _ => exact h
  | rt _ _ => exact h
  | bk _ _ => exact h
  | ct _ _ => exact h
  | un => exact h
theorem hnd_ok {tbl : List (Str × Str × Bool)} (xs : XS (gOf X T) tbl) {x m : List Addr} {H : Hp} {σ : St} {ρ : Env} {S : Sto} {e : Exn} {cls : Value} {d : Option Addr} {Dn : Ends} (p : Rp (gOf X T) x m H ρ S σ) (rx : RX (gOf X T) (x ++ m) H e cls d) :
    ∀ {hds : List ExceptHandler} {hs : List (Str × MS)} {l : List (Value × (Addr → Value → Option Addr → TS))}, MHds X T hds hs l → PostS (gOf X T) W x m H (hndM tbl hs e ρ S) Dn → wMany X.K W Dn l cls d σ H := by
  intro hds hs l hh
  induction hh with
  | nil => exact fun h => h m H σ cls d Ext.refl p rx
  | @cons y C g b₀ suite np pos' hds hs l hm hg hd hsu r ih =>
    intro h
    unfold hndM at h
    cases q : slk tbl e.cls y with
    | none => rw [q] at h; exact h.elim
    | some b =>
      rw [q] at h
      obtain ⟨C1, D1, h1, h2, h3⟩ := slk_ok xs q
      obtain ⟨C2, e1, e2, _⟩ := rx
      have e3 : C1 = C2 := by
        have := h1.symm.trans e2
        cases this; rfl
      have e4 : D1 = C := by
        have := h2.symm.trans hm
        cases this; rfl
      subst e3 e4
      refine ⟨b, by rw [e1]; exact h3, fun hb a _ => ?_, fun hb => ?_⟩
      · subst hb
        exact ⟨x, m, ρ, S, p, noX_post h⟩
      · subst hb
        exact ih h
theorem s_try {tbl : List (Str × Str × Bool)} {body : List Stmt} {f : MS} {hds : List ExceptHandler} {h₀ : ExceptHandler} {hs : List (Str × MS)} {l : List (Value × (Addr → Value → Option Addr → TS))} {pos : Pos} (xs : XS (gOf X T) tbl) (tk : Takes X W)
    (hb : ∀ (W' : WX) (pn : List (Addr × Obj)) (xe : Value → Shared → Prop), Takes (X.tr pn xe) W' → PassesOwn (model X.prog X.w) X.A X.env xe → PSs (X.tr pn xe) body (tS (gOf (X.tr pn xe) T) W' f))
    (hh : MHds X T (h₀ :: hds) hs l) (hs1 : X.stack = X.env :: X.outer := by rfl) (hf : X.env.frame = some X.env.locals := by rfl) : PS X (.Try body (h₀ :: hds) [] [] pos) (tS (gOf X T) W (tryM tbl f hs)) :=
  ps_mono (ps_try_many hs1 hf tk (tb := fun W' => tS (gOf X T) W' f) hb hh.hds) fun Dn σ H h => by
    obtain ⟨x, m, ρ, S, p, h⟩ := h
    refine ⟨x, m, ρ, S, p, ?_⟩
    unfold tryM at h
    cases q : f ρ S with
    | ex e ρ' S' =>
      rw [q] at h
      exact fun m' H' σ' cls d E p' rx => hnd_ok xs p' rx hh (PostS.shift E h)
    | nx _ _ => rw [q] at h; exact h
    | rt _ _ => rw [q] at h; exact h
    | bk _ _ => rw [q] at h; exact h
    | ct _ _ => rw [q] at h; exact h
    | un => rw [q] at h; exact h.elim
end
end Mir

/-! Mir19: a def that calls the lambda that it got, and tells how that ended. -/
namespace Mir
open PySem PySem.Spec PyProof.Rows L2 RZ LamX
def hsel (tbl : List (Str × Str × Bool)) : List (Str × Str) → Str → Option Str
  | [], _ => none
  | (y, r) :: t, x => match slk tbl x y with
    | some true => some r
    | some false => hsel tbl t x
    | none => none
def lamM (tbl : List (Str × Str × Bool)) (hs : List (Str × Str)) (fine : Str) (f : ME) : ME := fun ρ S => match f ρ S with
  | .ok _ S' => .ok (.d (.str fine)) S'
  | .ex e S' => match hsel tbl hs e.cls with
    | some r => .ok (.d (.str r)) S'
    | none => .un
  | .un => .un
def hval (K : PySem.W.Frag) : List (Value × Str) → Value → Hp → VK → Prop
  | [], _, _, _ => False
  | (c, r) :: t, cls, H, Q => ∃ b, PySem.W.exmOne K cls c = some b ∧ (b = true → Q (.str r) H) ∧ (b = false → hval K t cls H Q)
def TTw (K : PySem.W.Frag) (cs : List (Value × Str)) (fine : Str) : (XK → Hp → VK → Prop) → Hp → VK → Prop := fun tl H Q => tl (fun cls _ H' => hval K cs cls H' Q) H fun _ H' => Q (.str fine) H'
/-- the clauses of such a def -/
inductive WH (mg : Str → Option Value) (sg : Scope) : List ExceptHandler → List (Str × Str) → List (Value × Str) → Prop
  | nil : WH mg sg [] [] []
  | cons {e r : Str} {C : Addr} {np p5 p6 p7 : Pos} {j : Nat} {hds : List ExceptHandler} {hs : List (Str × Str)} {cs : List (Value × Str)} (hme : mg e = some (.ref C)) (hge : sg.names.lookup e = some .globalImplicit) (hde : (e == ("__debug__" : Str)) = false) (rest : WH mg sg hds hs cs) :
      WH mg sg (.ExceptHandler (some (.Name e np)) none [.Return (some (.Constant (.str r) j p5)) p6] p7 :: hds) ((e, r) :: hs) ((.ref C, r) :: cs)
section
variable {X : Cx}
def wl (cs : List (Value × Str)) : List (Value × (Addr → Value → Option Addr → TS)) := cs.map fun p => (p.1, fun _ _ _ D _ H => D.rt (.str p.2) H)
theorem WH.hds {Z : Cx} {sg : Scope} {hds : List ExceptHandler} {hs : List (Str × Str)} {cs : List (Value × Str)} (h : WH Z.mg sg hds hs cs) (hz : Z.env.scope = sg) (hgl : ∀ e, sg.names.lookup e = some .globalImplicit → Gl Z e) : HdsOk Z hds (wl cs) := by
  induction h with
  | nil => exact .nil
  | cons hme hge hde rest ih => exact .cons ⟨hgl _ hge, hde, .inl hme⟩ (fun a oe cls d pn _ _ => pss_one (ps_mono (ps_ret pe_str) fun Dn σ H h => h)) ih
theorem hval_many {K : PySem.W.Frag} {W : WX} {D : Ends} {cls : Value} {d : Option Addr} {σ : L2.St} {H : Hp} : ∀ {cs : List (Value × Str)}, hval K cs cls H D.rt → wMany K W D (wl cs) cls d σ H
  | [], h => h.elim
  | (c, r) :: t, ⟨b, h1, h2, h3⟩ => ⟨b, h1, fun hb a _ => h2 hb, fun hb => hval_many (h3 hb)⟩
theorem word_gives {Ng : List Str} {x a q fine : Str} {sg : Scope} {g : Addr} {cdg : Value} {h₀ : ExceptHandler} {hds : List ExceptHandler} {hs : List (Str × Str)} {cs : List (Value × Str)} {j : Nat} {p1 p2 p3 p4 p5 p8 : Pos} (hw : WH X.mg sg (h₀ :: hds) hs cs) (h0 : ∀ f : Addr, (L2.start Ng [V.ref f])[0]? = some (some (V.ref f))) :
    GivesTo X Ng x sg g cdg [.Try [.Expr (.Call (.Name a p1) [] [] p2) p3] (h₀ :: hds) [] [] p8, .Return (some (.Constant (.str fine) j p4)) p5] a q (TTw X.K cs fine) := by
  intro f c' s H Q tl act hc h
  refine ⟨_, pss_cons (ps_try_many (X := (cxOf C8.CX0 X.prog X.w X.K X.mg X.base Ng x sg g cdg X.A X.stack s H C8.E0).nox) (l := wl cs)
      (tb := fun W D σ H => ∃ Ech : XK, (∀ cls d σ' H', Ech cls d H' → W cls d σ' H') ∧ σ[0]? = some (some (.ref f)) ∧ H c' = some (CodeO c' q) ∧ tl Ech H fun _ H' => D.nx σ H')
      rfl rfl L2.takes0 (fun W pn xe tk _ => ?_) (hw.hds (Z := (cxOf C8.CX0 X.prog X.w X.K X.mg X.base Ng x sg g cdg X.A X.stack s H C8.E0).nox) rfl fun e he => he)) (pss_one (ps_ret pe_str)), ?_⟩
  · refine ⟨fun pins s' σ H' D I h' => ?_⟩
    obtain ⟨Ech, hW, h1, h2, h3⟩ := h'
    have hp := act W pn xe Ech p1 p2 tk hW
    have hq := pss_one (ps_expr (pos := p3) hp rfl)
    exact hq.run pins s' σ H' D I ⟨h1, h2, h3⟩
  · exact ⟨fun cls _ H' => hval X.K cs cls H' Q, fun cls d σ' H' h => hval_many h, h0 f, hc, h⟩
end
/-- such a def, by its name -/
structure Wd (G : Gc) (x : Str) (hs : List (Str × Str)) (fine : Str) : Prop where
  ex : ∃ (st : Stmt) (g : Addr) (fd : FuncData) (a : Str) (Ng : List Str) (h₀ : ExceptHandler) (hds : List ExceptHandler) (cs : List (Value × Str)) (j : Nat) (p1 p2 p3 p4 p5 p8 : Pos), Fun G.K x x st g fd ∧ G.mg x = some (.ref g) ∧ Binds G.K fd [a] [] ∧ FnScope Ng [a] (defScope st) ∧ Ng[0]? = some a ∧ Vis (defScope st) a ∧
    (a == ("__debug__" : Str)) = false ∧ (a == ("__classdict__" : Str)) = false ∧ (x == ("__debug__" : Str)) = false ∧ (∀ f : Addr, (L2.start Ng [V.ref f])[0]? = some (some (V.ref f))) ∧
    defBody st = [.Try [.Expr (.Call (.Name a p1) [] [] p2) p3] (h₀ :: hds) [] [] p8, .Return (some (.Constant (.str fine) j p4)) p5] ∧ WH G.mg (defScope st) (h₀ :: hds) hs cs
theorem hsel_ok {G : Gc} {tbl : List (Str × Str × Bool)} (xs : XS G tbl) {sg : Scope} {y r : Str} {C : Addr} {H : Hp} {Q : VK} (hy : G.mg y = some (.ref C)) (q : Q (.str r) H) : ∀ {hds : List ExceptHandler} {hs : List (Str × Str)} {cs : List (Value × Str)}, WH G.mg sg hds hs cs → hsel tbl hs y = some r → hval G.K cs (.ref C) H Q := by
  intro hds hs cs h
  induction h with
  | nil => intro z; simp [hsel] at z
  | @cons e r' D np p5 p6 p7 j hds hs cs hme hge hde rest ih =>
    intro z
    unfold hsel at z
    cases w : slk tbl y e with
    | none => rw [w] at z; cases z
    | some b =>
      rw [w] at z
      obtain ⟨C1, D1, h1, h2, h3⟩ := slk_ok xs w
      have e3 : C1 = C := by
        have := h1.symm.trans hy
        cases this; rfl
      have e4 : D1 = D := by
        have := h2.symm.trans hme
        cases this; rfl
      subst e3 e4
      refine ⟨b, h3, fun hb => ?_, fun hb => ?_⟩
      · subst hb
        cases z
        exact q
      · subst hb
        exact ih z
theorem Ext.ofN {G : Gc} {m : List Addr} {H H1 : Hp} (e : ExtN H H1) (t : Tabs G.T H1) : Ext G m H m H1 :=
  ⟨fun b o h _ n => e b o h n, fun b xs h => e b _ h (fun ps z => by cases z), fun b o u h => e b _ h (fun ps z => by cases z), fun b a h => e b _ h (fun ps z => by cases z), fun b ⟨o, h, n⟩ => ⟨o, e b o h n, n⟩, ⟨[], by simp, fun _ z => by cases z⟩, fun _ => t⟩
section
variable {X : Cx} {T : List (Addr × Str)} {W : WX}
theorem e_lam {x fine : Str} {hs : List (Str × Str)} {tbl : List (Str × Str × Bool)} {c P : Addr} {k : Nat} {params : Arguments} {body : Expr} {scope : Scope} {f : ME} {p lpos pos : Pos} (wd : Wd (gOf X T) x hs fine) (xs : XS (gOf X T) tbl)
    (TB : TabB X.base X.mg c P) (hcode : X.env.code = .ref c) (hmT : (P, X.env.qual ++ "<lambda>") ∈ T) (hu : ∀ p ∈ T, p.1 = P → p.2 = X.env.qual ++ "<lambda>") (hr : Room (k + 2) X.A)
    (hbody : ∀ (A : Around) (outer : List PySem.Env) (s : Shared) (H : Hp) (E : XK) (g c' : Addr), Room k (lamCx X A outer s H E scope g c').A → (lamCx X A outer s H E scope g c').A.units + 65 < cLine → Takes (lamCx X A outer s H E scope g c') (fun cls d _ H => E cls d H) →
      PE (lamCx X A outer s H E scope g c') body (tE (gOf (lamCx X A outer s H E scope g c') T) (fun cls d _ H => E cls d H) f))
    (L : LamS X.env.scope scope := by exact lamS_by (by decide +kernel)) (hg : Gl X x := by rfl) (hdef : defaultsOf params X.env = ([], []) := by rfl)
    (hbind : ∀ (q : Str) (cl : List (Str × Addr)) (pm cv ctv : Value), bindArgs (PySem.W.kla_fn "<lambda>" q params body scope cl pm cv ctv) ⟨[], []⟩ = pure [] := by intros; rfl) :
    PE X (.Call (.Name x p) [.Lambda params body scope lpos] [] pos) (tE (gOf X T) W (lamM tbl hs fine f)) := by
  obtain ⟨st, g, fd, a, Ng, h₀, hds, cs, j, p1, p2, p3, p4, p5, p8, F, gm, gb, gs, g0, gv, gd, gcd, gx, gst, gbody, gw⟩ := wd.ex
  obtain ⟨⟨oc, od, kV, doc, pm, an, cdv, ct, osl, rfl, lk, hcg⟩, hk⟩ := F
  refine pe_mono (pe_lamcall (k := k) hg gm hk lk hcg gb gs g0 gv (by rw [gbody]; exact word_gives gw gst) TB hcode hmT hu hr L hdef hbind (t := fun E => tE (gOf X T) (fun cls d _ H => E cls d H) f) (fun A outer s H E g' c' hr' => hbody A outer s H E g' c' hr' ?_ (takes_of rfl rfl rfl rfl)) gx gd gcd) fun σ H Q h => ?_
  · exact Nat.lt_of_le_of_lt (Nat.add_le_add_left (show 65 ≤ 16 * k + 200 by omega) _) (by rw [← Nat.add_assoc]; exact hr'.un)
  · obtain ⟨y, m, ρ, S, p, h⟩ := h
    refine ⟨p.tab, fun H1 eN T1 => ?_⟩
    have E1 : Ext (gOf X T) m H m H1 := Ext.ofN eN T1
    have R1 : RS (gOf X T) (y ++ m) m H1 S := p.sto.stay E1 fun a ha => by
      obtain ⟨o, h1, h2⟩ := p.sto.nt ha
      rw [h1]; exact eN a o h1 h2
    refine ⟨y, m, ρ, S, p.ext E1 R1, ?_⟩
    unfold lamM at h
    cases q : f ρ S with
    | ok u S' =>
      rw [q] at h
      exact fun m' H' E2 R2 v rv => h m' H' (E1.trans E2) R2 _ (.d (.str fine))
    | ex e S' =>
      rw [q] at h
      dsimp only at h
      cases hq : hsel tbl hs e.cls with
      | none => rw [hq] at h; exact h.elim
      | some r =>
        rw [hq] at h
        intro m' H' cls d E2 R2 rx
        obtain ⟨C, e1, e2, _⟩ := rx
        rw [e1]
        exact hsel_ok xs e2 (h m' H' (E1.trans E2) R2 _ (.d (.str r))) gw hq
    | un => rw [q] at h; exact h.elim
end
/-! ### a def with lambdas in it: its code object is known -/
/-- the code object and its table -/
structure Lc (base : Heap) (mg : Str → Option Value) (T : List (Addr × Str)) (c P : Addr) (q : Str) : Prop where
  tb : TabB base mg c P
  mem : (P, q) ∈ T
  one : ∀ p ∈ T, p.1 = P → p.2 = q
section
variable {P : Program} {w : World} {K : PySem.W.Frag} {mg : Str → Option Value} {base : Heap} {T : List (Addr × Str)} {x qual : Str} {st : Stmt} {f : Addr} {N ps : List Str} {k : Nat} {b : MS}
abbrev DerC (P : Program) (w : World) (K : PySem.W.Frag) (mg : Str → Option Value) (base : Heap) (T : List (Addr × Str)) (N : List Str) (qual : Str) (st : Stmt) (f : Addr) (k : Nat) (cdv : Value) (b : MS) : Prop :=
  ∀ (A : Around) (outer : List PySem.Env) (s : Shared) (H : Hp) (E : XK), Room k (bodyX P w K mg base N qual st f cdv A outer s H E).A → (bodyX P w K mg base N qual st f cdv A outer s H E).A.units + 65 < cLine →
    Takes (bodyX P w K mg base N qual st f cdv A outer s H E) (fun cls d _ H => E cls d H) → PassesOwn (model (bodyX P w K mg base N qual st f cdv A outer s H E).prog (bodyX P w K mg base N qual st f cdv A outer s H E).w) (bodyX P w K mg base N qual st f cdv A outer s H E).A (bodyX P w K mg base N qual st f cdv A outer s H E).env (bodyX P w K mg base N qual st f cdv A outer s H E).xe →
    PSs (bodyX P w K mg base N qual st f cdv A outer s H E) (defBody st) (tS (gOf (bodyX P w K mg base N qual st f cdv A outer s H E) T) (fun cls d _ H => E cls d H) b)
theorem obC {oc cdv kV doc pm ct : Value} {od an : Option Addr} {osl : Array (Option Value)} (lk : K.lookup f = some ⟨oc, od, .func (PySem.W.fnOf x qual (defArgs st) (defBody st) (defScope st) .none kV doc pm an cdv ct), osl⟩) (hcd : PySem.W.codeIn K cdv qual = true) (S : FnScope N ps (defScope st)) (D' : DerC P w K mg base T N qual st f k cdv b) :
    OBt P w K mg base T N f (PySem.W.fnOf x qual (defArgs st) (defBody st) (defScope st) .none kV doc pm an cdv ct) k ps b := fun sp hl h =>
  fn_of lk hcd S hl fun A outer s H vs Q E hr hsp =>
    ⟨_, D' A outer s H E hr (Nat.lt_of_le_of_lt (Nat.add_le_add_left (show 65 ≤ 16 * k + 200 by omega) _) (by rw [← Nat.add_assoc]; exact hr.un)) (takes_of rfl rfl rfl rfl) (passes_of rfl), h vs H Q E hsp⟩
end
/-! ### the law's end, with tables -/
theorem walk_mir {l : PySem.W.OpenLaw} {n k : Nat} {q : Program} {loose : List Str} {XP : (Str → Option Value) → Heap → Prop} {YP : World → Heap → Prop} {d : PySem.DefRec} {K : Params → PySem.W.Frag} {CX : World → CXT} {x : Str}
    (hn : l.most = some n) (hn2 : n ≤ sizeLine) (hdf : d.params.defaults = []) (hr : Room k callerA) (hY : ∀ (w : World) (h : Heap), YP w h → (K w.params).In h)
    (F : ∀ (w : World) (mg : Str → Option Value) (fa : Addr) (h : Heap), (K w.params).In h → h.Ns mainGlobals mg → mg d.name = some (.ref fa) → (∃ loose mean mb, PyProof.Rows.Top q loose mean mg mb h) → LawAtS l w (K w.params) (CX w) k n x mg fa h)
    (hCX : ∀ (w : World) (H : Hp) (s : Shared) (e : Value) (s' : Shared), CX w [] H s (fun _ _ _ => False) e s' → False) :
    PySem.W.WalkO q loose XP YP l.row.toRowW d [] (fun f vs => PySem.call f vs) :=
  Att.attach_callB hn hdf fun w s₀ s₁ mg mb fa o pm cd doc a vs ns G Y ho hd hcd hmg hobj hints hlen hbits hg => by
    have KX := hY w _ Y
    obtain ⟨fd, cs, sp, hT, nT, C, hb, hsp, hF⟩ := F w mg fa _ KX G.T.g hmg ⟨_, _, _, G.T⟩
    exact law_callTs KX G.T.g G.T.b G.T.builtins G.T.nolimit hg hT nT C G.T.bmain hobj hints (Nat.le_trans hlen hn2) hr hF hb (fun H hH hS => hsp H a ns hlen hbits hH hS) fun H e s' => hCX w H s₁ e s'
/-- what is promised of law: tables at T's addresses, a script, then True -/
def spLawT (K : PySem.W.Frag) (T : List (Addr × Str)) : Sp := fun vs H Q _ => ∃ (a : Addr) (ns : List Int), vs = [.ref a] ∧ ns.length ≤ 63 ∧ SqL K H a (ns.map V.int) ∧ (∀ p ∈ T, H p.1 = some (.tbl #[])) ∧ ∀ H', Q (.bl true) H'
theorem law_impT {P : Program} {w : World} {K : PySem.W.Frag} {mg : Str → Option Value} {base : Heap} {k : Nat} {f : Addr} {fd : FuncData} {F : List D → R} {T : List (Addr × Str)} (h : FnOk P w K mg base (L2.CX P w) k f fd ["script"] (sp0 ⟨P, w, K, mg, T⟩ 1 F))
    (hF : ∀ ns : List Int, ns.length ≤ 63 → F [.scr ns] = .ok (.bl true) ∧ F [.lst (ns.map D.int)] = .ok (.bl true)) : FnOk P w K mg base (L2.CX P w) k f fd ["script"] (spLawT K T) := h.imp fun vs H Q E ⟨a, ns, e, hl, hS, hT, hQ⟩ => by
  subst e
  have tb : Tabs T H := fun p hp => TabS.nil (hT p hp)
  have fin : ∀ d : D, RV ⟨P, w, K, mg, T⟩ [] H d (.ref a) → F [d] = .ok (.bl true) → sp0 ⟨P, w, K, mg, T⟩ 1 F [.ref a] H Q E := fun d rd hd => by
    refine ⟨rfl, [], [d], fun _ z => (by cases z), tb, .cons rd .nil, ?_⟩
    rw [hd]
    intro H' v _ r
    cases r
    exact hQ H'
  obtain ⟨h1, h2⟩ := hF ns hl
  rcases hS with (hS | hS) | hS
  · exact fin _ (.lst hS (fun z => by cases z) (rvs_ints ns)) h2
  · exact fin _ (.scr (.inl hS)) h1
  · exact fin _ (.scr (.inr hS)) h1
end Mir

/-! Mir20: calls without arguments; calls that look at cells; written dicts; dict(pairs). -/
namespace Mir
open PySem PySem.Spec PyProof.Rows L2 RZ
/-! ### f() -/
def callM0 (F : List D → R) : ME := fun _ S => match F [] with
  | .ok d => .ok (.d d) S
  | _ => .un
/-! ### a call that only looks at cells; its answer is no list, no dict -/
mutual
def flatD : D → Bool
  | .non => true
  | .bl _ => true
  | .int _ => true
  | .str _ => true
  | .tup xs => flatDs xs
  | .lst _ => false
  | .dic _ _ _ => false
  | .scr _ => false
def flatDs : List D → Bool
  | [] => true
  | x :: xs => flatD x && flatDs xs
end
def callV (F : List D → R) (fs : List ME) : ME := fun ρ S => (argsM fs ρ S).bind fun us S1 => match rds S1 us with
  | some ds => match F ds with
    | .ok d => if flatD d = true then .ok (.d d) S1 else .un
    | .ex e => if e.fs.isNone = true then .ex e S1 else .un
    | .un => .un
  | none => .un
section
variable {G : Gc} {e e' : List Addr} {H : Hp}
mutual
theorem RV.flat : ∀ {d : D} {v : V}, RV G e H d v → flatD d = true → RV G e' H d v
  | _, _, .non, _ => .non
  | _, _, .bl b, _ => .bl b
  | _, _, .int i, _ => .int i
  | _, _, .str x, _ => .str x
  | _, _, .tup h r, q => .tup h (RVs.flats r (by simpa [flatD] using q))
  | _, _, .lst _ _ _, q => by simp [flatD] at q
  | _, _, .scr _, q => by simp [flatD] at q
  | _, _, .dic _ _ _ _, q => by simp [flatD] at q
theorem RVs.flats : ∀ {ds : List D} {vs : List V}, RVs G e H ds vs → flatDs ds = true → RVs G e' H ds vs
  | _, _, .nil, _ => .nil
  | _, _, .cons r t, q => by
    have h := Bool.and_eq_true_iff.mp (show (flatD _ && flatDs _) = true from q)
    exact .cons (RV.flat r h.1) (RVs.flats t h.2)
end
/-- what is read off cells, where cells are looked at as data: apart from nothing -/
theorem RT.un {d : D} {v : V} (r : RT G e H d v) : RV G [] H d v := by
  have k : Keep G e H [] H := keep_sub fun a z => by cases z
  cases r with
  | of r => exact r.keep k
  | lst h r => exact .lst h (fun z => by cases z) (r.keep k)
  | dic h q r => exact .dic h (fun z => by cases z) q (r.keep k)
theorem RTs.un : ∀ {ds : List D} {vs : List V}, RTs G e H ds vs → RVs G [] H ds vs
  | _, _, .nil => .nil
  | _, _, .cons r t => .cons r.un (RTs.un t)
end
section
variable {X : Cx} {T : List (Addr × Str)} {W : WX} {k n : Nat} {x : Str} {e : Expr} {es : List Expr} {fs : List ME} {pos px : Pos}
theorem e_call0 {F : List D → R} (h : Kn (gOf X T) X.base k x (sp0 (gOf X T) 0 F)) (hr : Room k X.A) (tk : Takes X W) (hg : Gl X x := by rfl) (hdb : (x == ("__debug__" : Str)) = false := by decide) : PE X (.Call (.Name x px) [] [] pos) (tE (gOf X T) W (callM0 F)) := by
  obtain ⟨f, fd, ps, h1, h2, h3, h4⟩ := h.ex
  refine pe_mono (pe_call0 (E := fun _ _ _ => False) h1 hr hg h2 h3 h4 .nil (passes_call tk fun _ _ _ _ z => z.elim) hdb) fun σ H Q h => ?_
  obtain ⟨y, m, ρ, S, q, h⟩ := h
  refine ⟨rfl, y ++ m, [], q.trkN, q.tab, .nil, ?_⟩
  unfold callM0 at h
  unfold PR
  split at h
  · rename_i d hd
    rw [hd]
    exact fun H' v E2 rv => h m H' E2.of_nil (q.sto.stay0 E2) v (.d rv)
  · exact h.elim
theorem e_callV {F : List D → R} (h : Kn (gOf X T) X.base k x (sp0 (gOf X T) n F)) (hr : Room k X.A) (tk : Takes X W) (hn : Nat.beq fs.length n = true := by rfl) (ha : PA X (e :: es) (tA (gOf X T) W (argsM fs))) (hg : Gl X x := by rfl)
    (hdb : (x == ("__debug__" : Str)) = false := by decide) (he : starEach (e :: es) X.env = (false, eval e X.env) :: starEach es X.env := by rfl) (hpl : (backTo pos (starEach es X.env)).any (·.1) = false := by rfl) :
    PE X (.Call (.Name x px) (e :: es) [] pos) (tE (gOf X T) W (callV F fs)) := by
  obtain ⟨f, fd, ps, h1, h2, h3, h4⟩ := h.ex
  refine pe_mono (pe_callS h1 hr hg h2 h3 h4 (fun σ => passAt tk σ) ha hdb he hpl) fun σ H Q h => ?_
  obtain ⟨y, m, ρ, S, q, h⟩ := h
  cases q1 : argsM fs ρ S with
  | un => simp only [callV, q1, O.bind] at h; exact h.elim
  | ex ee S' =>
    refine ⟨y, m, ρ, S, q, ?_⟩
    simp only [callV, q1, O.bind] at h ⊢
    exact h
  | ok us S' =>
    refine ⟨y, m, ρ, S, q, ?_⟩
    rw [q1]
    intro m1 H1 E1 R1 vs rvs
    have p1 := q.ext E1 R1
    simp only [callV, q1, O.bind] at h
    refine ⟨by rw [← RUs.length rvs, argsM_len q1]; exact Nat.eq_of_beq_eq_true hn, ?_⟩
    split at h
    · rename_i ds hds
      refine ⟨[], ds, fun _ z => (by cases z), p1.tab, (RUs.rts R1 rvs hds).un, ?_⟩
      unfold PR
      split
      · rename_i d hd
        rw [hd] at h
        dsimp only at h
        split at h
        · rename_i hf
          exact fun H' v E2 rv => h m1 H' (E1.trans E2.of_nil) (R1.stay0 E2) v (.d (rv.flat hf))
        · exact h.elim
      · rename_i ee hd
        rw [hd] at h
        dsimp only at h
        split at h
        · rename_i hf
          refine fun H' cls d E2 rx => h m1 H' cls d (E1.trans E2.of_nil) (R1.stay0 E2) ?_
          obtain ⟨C, c1, c2, c3⟩ := rx
          refine ⟨C, c1, c2, ?_⟩
          have en : ee.fs = none := by simpa using hf
          rw [en]
          trivial
        · exact h.elim
      · rename_i hd
        rw [hd] at h
        exact h
    · exact h.elim

/-! ### {k: v, ..} with written texts as keys -/
def dicM (ks : List Str) (fs : List ME) : ME := fun ρ S => match argsM fs ρ S with
  | .ok us S' => match pures us with
    | some ds => .ok (.d (.dic false (ks.map .text) ds)) S'
    | none => .un
  | _ => .un
def trsOf (G : Gc) (W : WX) : List Str → List ME → List (TE × TE)
  | k :: ks, f :: fs => (tC (.str k), tE G W f) :: trsOf G W ks fs
  | _, _ => []
abbrev MPs (X : Cx) (T : List (Addr × Str)) (W : WX) (pos : Pos) (keys : List (Option Expr)) (values : List Expr) (ks : List Str) (fs : List ME) : Prop := PPs X pos keys values (trsOf (gOf X T) W ks fs)
theorem q_nil : MPs X T W pos [] [] [] [] := pps_nil
theorem q_cons {k : Str} {j : Nat} {kp : Pos} {v : Expr} {f : ME} {keys : List (Option Expr)} {values : List Expr} {ks : List Str} {fs : List ME} (hv : PE X v (tE (gOf X T) W f)) (hr : MPs X T W pos keys values ks fs) : MPs X T W pos (some (.Constant (.str k) j kp) :: keys) (v :: values) (k :: ks) (f :: fs) := pps_cons pe_str hv hr
theorem disp_args {σ : St} {y : List Addr} {ρ : Env} : ∀ {fs : List ME} {ks : List Str} {m : List Addr} {H : Hp} {S : Sto} {Qp : List (V × V) → Hp → Prop}, ks.length = fs.length → Rp (gOf X T) y m H ρ S σ → Post (gOf X T) W y m σ H (argsM fs ρ S) (fun us _ m' H' => ∀ vs, RUs (gOf X T) (y ++ m') m' H' us vs → Qp ((ks.map V.str).zip vs) H') →
    tPairs (trsOf (gOf X T) W ks fs) σ H Qp
  | [], [], m, H, S, Qp, _, p, h => h m H Ext.refl p.sto [] .nil
  | f :: fs, k :: ks, m, H, S, Qp, hl, p, h => by
    refine ⟨y, m, ρ, S, p, (Post.bind h).mono fun u S1 m1 H1 E1 R1 ⟨_, _, h1⟩ v rv => ?_⟩
    have p1 := p.ext E1 R1
    exact disp_args (Qp := fun ps H' => Qp ((.str k, v) :: ps) H') (ks := ks) (by simpa using hl) p1 ((Post.bind h1).mono fun us S2 m2 H2 E2 R2 ⟨_, _, h3⟩ vs rvs => h3 m2 H2 Ext.refl R2 _ (.cons (rv.ext E2) rvs))
  | [], _ :: _, _, _, _, _, hl, _, _ => by simp at hl
  | _ :: _, [], _, _, _, _, hl, _, _ => by simp at hl
theorem putK_new {kvs : List (Key × V)} {k : Key} {v : V} (h : k ∉ kvs.map (·.1)) : putK kvs k v = kvs ++ [(k, v)] := by
  unfold putK
  rw [if_neg]
  intro z
  obtain ⟨p, hp, e⟩ := List.any_eq_true.mp z
  exact h (List.mem_map.mpr ⟨p, hp, of_decide_eq_true e⟩)
theorem mergeK_nodup : ∀ (more kvs : List (Key × V)), ((kvs ++ more).map (·.1)).Nodup → mergeK kvs more = kvs ++ more
  | [], kvs, _ => by simp [mergeK]
  | (k, v) :: more, kvs, h => by
    have h1 : k ∉ kvs.map (·.1) := fun z => by
      rw [List.map_append] at h
      exact (List.nodup_append.mp h).2.2 k z k (by simp) rfl
    show mergeK (putK kvs k v) more = _
    rw [putK_new h1, mergeK_nodup more (kvs ++ [(k, v)]) (by simpa using h)]
    simp
theorem Ext.growO {G : Gc} {m m' : List Addr} {H0 H' : Hp} {p : Addr} {o o' : HO} (E : Ext G m H0 m' H') (h0 : H0 p = none) (h : H' p = some o) (h1 : ∀ ps, o ≠ .tbl ps) (h2 : ∀ c q, p = c → o ≠ LamX.CodeO c q) (h3 : ∀ ps, o' ≠ .tbl ps) : Ext G m H0 m' (upd H' p o') := by
  have ne : ∀ {b : Addr} {u : HO}, H0 b = some u → b ≠ p := fun {b u} q z => by rw [z, h0] at q; cases q
  refine ⟨fun b u q n t => by rw [upd_ne (ne q)]; exact E.keep b u q n t, fun b xs q => by rw [upd_ne (ne q)]; exact E.tups b xs q, fun b u w q => by rw [upd_ne (ne q)]; exact E.frzs b u w q,
    fun b a q => by rw [upd_ne (ne q)]; exact E.owns b a q, fun b q => ?_, E.pre, fun t pp hp => ?_⟩
  · obtain ⟨u, q1, q2⟩ := E.live b q
    by_cases z : b = p
    · rw [z]; exact ⟨_, upd_same, h3⟩
    · exact ⟨u, by rw [upd_ne z]; exact q1, q2⟩
  · obtain ⟨ps, g1, g2, g3⟩ := E.tab t pp hp
    refine ⟨ps, by rw [upd_ne (fun z => h1 ps (by rw [z, h] at g1; exact Option.some.inj g1))]; exact g1, g2, fun pos cv hc => ?_⟩
    obtain ⟨c, g4, g5⟩ := g3 pos cv hc
    exact ⟨c, g4, by rw [upd_ne (fun z => h2 c pp.2 z.symm (by rw [z, h] at g5; rw [z]; exact Option.some.inj g5))]; exact g5⟩
theorem zip_keys : ∀ {ks : List Str} {vs : List V}, vs.length = ks.length → (ks.map V.str).zip vs = ((ks.map Sum.inr).zip vs).map (fun kv => ((kV kv.1 : V), kv.2)) ∧ (((ks.map Sum.inr : List Key).zip vs).map (·.1)) = ks.map Sum.inr
  | [], [], _ => ⟨rfl, rfl⟩
  | k :: ks, v :: vs, h => by
    obtain ⟨h1, h2⟩ := zip_keys (ks := ks) (vs := vs) (by simpa using h)
    exact ⟨by simp [h1, kV], by simp [h2]⟩
  | [], _ :: _, h => by simp at h
  | _ :: _, [], h => by simp at h
theorem e_dic {keys : List (Option Expr)} {values : List Expr} {ks : List Str} {fs : List ME} (h : MPs X T W pos keys values ks fs) (hk : ks.Nodup := by decide +kernel) (hl : ks.length = fs.length := by rfl) (h15 : Nat.ble ks.length 15 = true := by rfl)
    (hall : keys.all (·.isSome) = true := by rfl) (hlen : keys.length = values.length := by rfl) (h0 : keys ≠ [] := by simp) (hk15 : keys.length ≤ 15 := by decide) : PE X (.Dict keys values pos) (tE (gOf X T) W (dicM ks fs)) := pe_mono (pe_disp h hall hlen h0 hk15) fun σ H Q h => by
  obtain ⟨y, m, ρ, S, q, h⟩ := h
  intro p np
  have hide : Keep (gOf X T) (y ++ m) H (p :: (y ++ m)) (upd H p (.dK [])) := Keep.hide np
  have p0 : Rp (gOf X T) (p :: y) m (upd H p (.dK [])) ρ S σ := ⟨q.env.keep hide, q.sto.keep hide (fun b hb => List.mem_cons_of_mem _ (List.mem_append_right _ hb)) (fun a ha => by
      obtain ⟨u, z⟩ := q.sto.live ha
      rw [upd_ne (ne_of_none z np)]) (fun b c z => by rw [upd_ne (ne_of_none z np)]; exact z), fun b hb => by
        rcases List.mem_cons.mp hb with z | z
        · rw [z]; exact ⟨_, upd_same, fun ps z => by cases z⟩
        · obtain ⟨u, w, wn⟩ := q.ex b z
          exact ⟨u, by rw [upd_ne (ne_of_none w np)]; exact w, wn⟩, q.tab.ext fun b u z => by rw [upd_ne (ne_of_none z np)]; exact z⟩
  have nm : p ∉ m := fun z => by
    obtain ⟨u, w⟩ := q.sto.live z
    rw [np] at w; cases w
  have ny : p ∉ y := fun z => by
    obtain ⟨u, w, _⟩ := q.ex p z
    rw [np] at w; cases w
  have E0 : Ext (gOf X T) m H m (upd H p (.dK [])) := Ext.new np
  refine disp_args hl p0 ?_
  unfold dicM at h
  cases qa : argsM fs ρ S with
  | un => rw [qa] at h; exact h.elim
  | ex ee S' => rw [qa] at h; exact h.elim
  | ok us S' =>
    rw [qa] at h
    intro m1 H1 E1 R1 vs rvs
    dsimp only at h
    split at h
    · rename_i ds hd
      have hr := RUs.pure rvs hd
      have hv : vs.length = ks.length := by rw [← RUs.length rvs, argsM_len qa, hl]
      have hp1 : H1 p = some (.dK []) := E1.keep _ _ upd_same nm (fun ps z => by cases z)
      have nm1 : p ∉ m1 := fun z => by
        obtain ⟨nw, e1, f1⟩ := E1.pre
        rw [e1] at z
        rcases List.mem_append.mp z with z | z
        · exact nm z
        · exact f1 p z ⟨_, upd_same, fun ps z => by cases z⟩
      have nk : ((([] : List (Key × V)) ++ (ks.map Sum.inr : List Key).zip vs).map (·.1)).Nodup := by
        rw [List.nil_append, (zip_keys hv).2]
        exact List.Pairwise.map _ (fun a b hab z => hab (Sum.inr.inj z)) hk
      refine ⟨hp1, (ks.map Sum.inr).zip vs, (zip_keys hv).1, ?_, ?_⟩
      · rw [List.length_zip, List.length_map, hv, Nat.min_self]
        exact Nat.le_of_ble_eq_true h15
      · rw [mergeK_nodup _ _ nk, List.nil_append]
        have E2 : Ext (gOf X T) m H m1 (upd H1 p (.dK ((ks.map Sum.inr).zip vs))) := Ext.growO (E0.trans E1) np hp1 (fun ps z => by cases z) (fun c q z => dK_code) (fun ps z => by cases z)
        have kg : Keep (gOf X T) (p :: y ++ m1) H1 (p :: y ++ m1) (upd H1 p (.dK ((ks.map Sum.inr).zip vs))) := Keep.upd1 hp1 (fun _ z => by cases z) (fun _ _ z => by cases z) List.mem_cons_self
        have ks2 : Keep (gOf X T) (p :: y ++ m1) (upd H1 p (.dK ((ks.map Sum.inr).zip vs))) (y ++ m1) (upd H1 p (.dK ((ks.map Sum.inr).zip vs))) := keep_sub fun a ha => List.mem_cons_of_mem _ ha
        have R2 := (R1.keep kg (fun b hb => List.mem_append_right _ hb) (fun a ha => upd_ne fun z => nm1 (z ▸ ha)) (fun b c q => by
            rw [upd_ne (fun z => by rw [z, hp1] at q; cases q)]; exact q)).keep ks2 (fun b hb => List.mem_append_right _ hb) (fun _ _ => rfl) fun _ _ q => q
        refine h m1 _ E2 R2 _ (.d ?_)
        have rd := RD.k (G := gOf X T) (H := upd H1 p (.dK ((ks.map Sum.inr).zip vs))) (a := p) (ks.map Sum.inr) vs (by rw [List.length_map, hv])
        have ek : (ks.map (Sum.inr : Str → Key)).map kN = ks.map .text := by simp [kN, Function.comp_def]
        rw [ek] at rd
        refine .dic upd_same (fun z => ?_) rd ((hr.keep kg).keep ks2)
        rcases List.mem_append.mp z with z | z
        · exact ny z
        · exact nm1 z
    · exact h.elim
end
end Mir

/-! Mir21: comprehensions over two: the second over a tuple of the module. -/
namespace Mir
open PySem PySem.Spec PyProof.Rows L2 RZ
def lc2L (tg1 : Tg) (t1 : MT) (es : List D) (tg2 : Tg) (t2 : MT) (f : ME) (vs1 : List Nat) (ρ0 : Env) : List D → Sto → O (List D)
  | [], S => .ok [] S
  | d :: ds, S => match setT tg1 d ρ0 with
    | none => .un
    | some ρ => match t1 ρ S with
      | .ok true S1 => match lcL tg2 t2 f (wipeE ρ vs1) es S1 with
        | .ok ys S2 => match lc2L tg1 t1 es tg2 t2 f vs1 ρ0 ds S2 with
          | .ok zs S3 => .ok (ys ++ zs) S3
          | _ => .un
        | _ => .un
      | .ok false S1 => lc2L tg1 t1 es tg2 t2 f vs1 ρ0 ds S1
      | _ => .un
def lc2M (it : MI) (tg1 : Tg) (t1 : MT) (es : List D) (tg2 : Tg) (t2 : MT) (f : ME) (own vs1 : List Nat) : ME := fun ρ S => (it ρ S).bind fun ds S1 =>
  if ds.length ≤ 1000 ∧ es.length ≤ 1000 then match lc2L tg1 t1 es tg2 t2 f vs1 (wipeE ρ own) ds S1 with
    | .ok ys S2 => .ok (.d (.lst ys)) S2
    | _ => .un
  else .un
theorem lcL_len {tg : Tg} {t : MT} {f : ME} {ρ0 : Env} : ∀ {ds : List D} {S S' : Sto} {ys : List D}, lcL tg t f ρ0 ds S = .ok ys S' → ys.length ≤ ds.length
  | [], _, _, _, h => by simp [lcL] at h; simp [← h.1]
  | d :: ds, S, S', ys, h => by
    unfold lcL at h
    split at h
    · cases h
    · split at h
      · split at h
        · split at h
          · rename_i q
            cases h
            have := lcL_len q
            simp; omega
          · cases h
        · cases h
      · have := lcL_len h
        simp; omega
      · cases h
section
variable {X : Cx} {T : List (Addr × Str)} {W : WX}
/-- the second walk: over the tuple at a, wherever the heap stands -/
theorem lc_inner {es : List D} {tgt : Tg} {t : MT} {f : ME} {vs1 : List Nat} (ho : ∀ i ∈ tgt.ix, i ∈ vs1) {a D₀ : Addr} (hes : ∀ e H, RV (gOf X T) e H (.tup es) (.ref a)) {x m1 : List Addr} {H1 : Hp} (hD : H1 D₀ = none) (hT1 : LamX.Tabs T H1) {m : List Addr} {H : Hp} {ρ ρO : Env} {S Sf : Sto} {σ σO : L2.St} {acc ys : List D} {vacc : List V} {n0 : Nat} {Nx : Hp → Prop}
    (E : Ext (gOf X T) m1 H1 m H) (p : Rp (gOf X T) (D₀ :: x) m H ρ S σ) (oe : RE (gOf X T) (D₀ :: x ++ m) m H ρO σO) (hd : H D₀ = some (.lst vacc)) (r : RVs (gOf X T) (D₀ :: x ++ m) H acc vacc) (hn : vacc.length ≤ n0) (hsz : n0 + es.length < sizeLine) (nD : D₀ ∉ m)
    (hL : lcL tgt t f (wipeE ρ vs1) es S = .ok ys Sf)
    (fin : ∀ m' H' vacc', Ext (gOf X T) m1 H1 m' H' → RS (gOf X T) (D₀ :: x ++ m') m' H' Sf → (∀ b ∈ D₀ :: x, Nt H' b) → LamX.Tabs T H' → RE (gOf X T) (D₀ :: x ++ m') m' H' ρO σO → H' D₀ = some (.lst vacc') → RVs (gOf X T) (D₀ :: x ++ m') H' (acc ++ ys) vacc' → vacc'.length ≤ n0 + es.length → D₀ ∉ m' → Nx H') :
    ∃ W1 : Nat → Nat → Hp → Prop, (∃ k, W1 0 k H) ∧ ∀ j k H2, W1 j k H2 → ((Itt X.K a).stop j H2 ∧ Nx H2) ∨ ((Itt X.K a).go j H2 ∧ ∃ Nx1 : Hp → Prop, (∀ H', Nx1 H' → ∃ k', k' < k ∧ W1 (j + 1) k' H') ∧ ∀ v H3, (Itt X.K a).yld j H2 v H3 → gT X.K tgt v (L2.wipe σ vs1) H3 fun σ3 H5 => L2.wipe σ3 vs1 = L2.wipe σ vs1 ∧ tT (gOf X T) WF t σ3 H5 fun b H6 =>
      if b = true then tE (gOf X T) WF f σ3 H6 fun y H7 => ∃ acc, H7 D₀ = some (.lst acc) ∧ acc.length < sizeLine ∧ Nx1 (upd H7 D₀ (.lst (acc ++ [y]))) else Nx1 H6) := by
  refine ⟨fun i k H2 => ∃ m2 S2 acc2 vacc2 rest, k = es.length - i ∧ i ≤ es.length ∧ Ext (gOf X T) m1 H1 m2 H2 ∧ Rp (gOf X T) (D₀ :: x) m2 H2 (wipeE ρ vs1) S2 (L2.wipe σ vs1) ∧ RE (gOf X T) (D₀ :: x ++ m2) m2 H2 ρO σO ∧ H2 D₀ = some (.lst vacc2) ∧
      RVs (gOf X T) (D₀ :: x ++ m2) H2 acc2 vacc2 ∧ vacc2.length ≤ n0 + i ∧ lcL tgt t f (wipeE ρ vs1) (es.drop i) S2 = .ok rest Sf ∧ acc ++ ys = acc2 ++ rest ∧ D₀ ∉ m2,
    ⟨es.length, m, S, acc, vacc, ys, by simp, Nat.zero_le _, E, ⟨RE.wipeS vs1 p.env, p.sto, p.ex, p.tab⟩, oe, hd, r, by omega, by rw [List.drop_zero]; exact hL, rfl, nD⟩, ?_⟩
  rintro i k H2 ⟨m2, S2, acc2, vacc2, rest, rfl, hi, E2, p2, oe2, hd2, r2, hv, hl, hy, nD2⟩
  obtain ⟨xs, hq, hxs⟩ : ∃ xs, SqT X.K H2 a xs ∧ RVs (gOf X T) (D₀ :: x ++ m2) H2 es xs := by
    cases hes (D₀ :: x ++ m2) H2 with
    | tup h1 h2 => exact ⟨_, h1, h2⟩
  have hY := yl_tup (x := D₀ :: x) (m := m2) hq hxs (D₀ :: x) m2 H2 (fun b hb => .inl hb) Ext.refl p2.trk i
  by_cases hlt : i < es.length
  · obtain ⟨hgo, hyl⟩ := hY.1 es[i] (List.getElem?_eq_getElem hlt)
    rw [List.drop_eq_getElem_cons hlt] at hl
    simp only [lcL] at hl
    refine .inr ⟨hgo, fun H3 => ∃ m3 S3 acc3 vacc3 rest, Ext (gOf X T) m1 H1 m3 H3 ∧ Rp (gOf X T) (D₀ :: x) m3 H3 (wipeE ρ vs1) S3 (L2.wipe σ vs1) ∧ RE (gOf X T) (D₀ :: x ++ m3) m3 H3 ρO σO ∧ H3 D₀ = some (.lst vacc3) ∧
      RVs (gOf X T) (D₀ :: x ++ m3) H3 acc3 vacc3 ∧ vacc3.length ≤ n0 + (i + 1) ∧ lcL tgt t f (wipeE ρ vs1) (es.drop (i + 1)) S3 = .ok rest Sf ∧ acc ++ ys = acc3 ++ rest ∧ D₀ ∉ m3,
      fun H3 ⟨m3, S3, acc3, vacc3, rest, a1, a2, a3, a4, a5, a6, a7, a8, a9⟩ => ⟨es.length - (i + 1), by omega, m3, S3, acc3, vacc3, rest, rfl, hlt, a1, a2, a3, a4, a5, a6, a7, a8, a9⟩, fun v H3 yv => ?_⟩
    obtain ⟨E3, k3, r3⟩ := hyl v H3 yv
    have R3 : RS (gOf X T) (D₀ :: x ++ m2) m2 H3 S2 := p2.sto.stay E3 fun a ha => k3 a ha (by obtain ⟨o, q⟩ := p2.sto.live ha; rw [q]; simp)
    have p3 := p2.ext E3 R3
    cases hs : setT tgt es[i] (wipeE ρ vs1) with
    | none => rw [hs] at hl; cases hl
    | some ρ' =>
      rw [hs] at hl
      dsimp only at hl
      refine tg_ok r3 p3.env hs ho fun σ' re' hw => ⟨by rw [hw, wipe_idem], ?_⟩
      have q3 : Rp (gOf X T) (D₀ :: x) m2 H3 ρ' S2 σ' := ⟨re', R3, p3.ex, p3.tab⟩
      have nD' : ∀ {m m' : List Addr} {H H' : Hp}, Ext (gOf X T) m H m' H' → D₀ ∉ m → Nt H D₀ → D₀ ∉ m' := fun E n q z => by
        obtain ⟨nw, e1, f1⟩ := E.pre
        rw [e1] at z
        rcases List.mem_append.mp z with z | z
        · exact n z
        · exact f1 _ z q
      have d3 : H3 D₀ = some (.lst vacc2) := E3.keep _ _ hd2 nD2 (fun ps z => by cases z)
      refine ⟨D₀ :: x, m2, ρ', S2, q3, ?_⟩
      cases ht : t ρ' S2 with
      | un => rw [ht] at hl; cases hl
      | ex ee S' => rw [ht] at hl; cases hl
      | ok b S3 =>
        rw [ht] at hl
        intro m4 H4 E4 R4
        have q4 := q3.ext E4 R4
        have d4 : H4 D₀ = some (.lst vacc2) := E4.keep _ _ d3 nD2 (fun ps z => by cases z)
        have n4 := nD' E4 nD2 ⟨_, d3, fun ps z => by cases z⟩
        cases b with
        | false =>
          exact iteF ⟨m4, S3, acc2, vacc2, rest, (E2.trans E3).trans E4, ⟨(p3.ext E4 R4).env, R4, (p3.ext E4 R4).ex, (p3.ext E4 R4).tab⟩, oe2.ext (x := D₀ :: x) (E3.trans E4), d4, r2.keep ((E3.trans E4).kp), by omega, hl, hy, n4⟩
        | true =>
          refine iteT ⟨D₀ :: x, m4, ρ', S3, q4, ?_⟩
          dsimp only at hl
          cases hf : f ρ' S3 with
          | un => rw [hf] at hl; cases hl
          | ex ee S' => rw [hf] at hl; cases hl
          | ok u S4 =>
            rw [hf] at hl
            cases u with
            | c j => cases hl
            | t j => cases hl
            | d y =>
              dsimp only at hl
              cases hr : lcL tgt t f (wipeE ρ vs1) (es.drop (i + 1)) S4 with
              | un => rw [hr] at hl; cases hl
              | ex ee S' => rw [hr] at hl; cases hl
              | ok rest' S5 =>
                rw [hr] at hl
                cases hl
                intro m5 H5 E5 R5 w rw'
                have d5 : H5 D₀ = some (.lst vacc2) := E5.keep _ _ d4 n4 (fun ps z => by cases z)
                have n5 := nD' E5 n4 ⟨_, d4, fun ps z => by cases z⟩
                have E35 := (E3.trans E4).trans E5
                have p5 := p2.ext E35 R5
                have oe5 := oe2.ext (x := D₀ :: x) E35
                have kg : Keep (gOf X T) (D₀ :: x ++ m5) H5 (D₀ :: x ++ m5) (upd H5 D₀ (.lst (vacc2 ++ [w]))) := Keep.grow d5 List.mem_cons_self
                refine ⟨vacc2, d5, by omega, m5, S4, acc2 ++ [y], vacc2 ++ [w], rest', (E2.trans E35).grow hD d5, ⟨p5.env.keep kg, R5.keep kg (fun b hb => List.mem_append_right _ hb) (fun a ha => upd_ne fun z => n5 (z ▸ ha)) (fun b y q => by
                    rw [upd_ne (fun z => by rw [z, d5] at q; cases q)]; exact q), fun b hb => ?_, ?_⟩, oe5.keep kg, upd_same, ?_, by simp; omega, hr, by rw [hy]; simp, n5⟩
                · by_cases z : b = D₀
                  · rw [z]; exact ⟨_, upd_same, fun ps z => by cases z⟩
                  · obtain ⟨o, q, qn⟩ := p5.ex b hb
                    exact ⟨o, by rw [upd_ne z]; exact q, qn⟩
                · exact ((E2.trans E35).grow hD d5).tab hT1
                · refine (RVs.append (r2.keep E35.kp) (.cons ?_ .nil)).keep kg
                  cases rw' with
                  | d r => exact r
  · have e : i = es.length := by omega
    rw [e, List.drop_length] at hl
    cases hl
    rw [List.append_nil] at hy
    refine .inl ⟨hY.2 (by omega), fin m2 H2 vacc2 E2 p2.sto p2.ex p2.tab oe2 hd2 (by rw [hy]; exact r2) (by omega) nD2⟩
theorem lc2_red {fi : MI} {t1 t2 : MT} {f : ME} {tg1 tg2 : Tg} {own vs1 : List Nat} {es : List D} {a : Addr} (hes : ∀ e H, RV (gOf X T) e H (.tup es) (.ref a)) (ho : ∀ i ∈ tg1.ix, i ∈ own) (ho2 : ∀ i ∈ tg2.ix, i ∈ vs1) {σ : L2.St} {H : Hp} {Q : VK} (h : tE (gOf X T) W (lc2M fi tg1 t1 es tg2 t2 f own vs1) σ H Q) :
    tLc2 (tI (gOf X T) W fi) (gT X.K tg1) (tT (gOf X T) WF t1) (iTup X.K (tC (.ref a))) (gT X.K tg2) (tT (gOf X T) WF t2) (tE (gOf X T) WF f) own vs1 σ H Q := by
  obtain ⟨x, m, ρ, S, p, h⟩ := h
  refine ⟨x, m, ρ, S, p, (Post.bind h).mono fun ds S1 m1 H1 E1 R1 ⟨_, _, h1⟩ J hJ => fun D₀ hD => ?_⟩
  have p1 := p.ext E1 R1
  split at h1
  case isFalse => exact h1.elim
  case isTrue hbig =>
  cases hL : lc2L tg1 t1 es tg2 t2 f vs1 (wipeE ρ own) ds S1 with
  | un => rw [hL] at h1; exact h1.elim
  | ex ee S' => rw [hL] at h1; exact h1.elim
  | ok ys Sf =>
    rw [hL] at h1
    refine ⟨fun i k H2 => ∃ m2 S2 acc vacc rest, k = ds.length - i ∧ i ≤ ds.length ∧ Ext (gOf X T) m1 H1 m2 H2 ∧ Rp (gOf X T) (D₀ :: x) m2 H2 (wipeE ρ own) S2 (L2.wipe σ own) ∧ H2 D₀ = some (.lst vacc) ∧
      RVs (gOf X T) (D₀ :: x ++ m2) H2 acc vacc ∧ vacc.length ≤ 1000 * i ∧ lc2L tg1 t1 es tg2 t2 f vs1 (wipeE ρ own) (ds.drop i) S2 = .ok rest Sf ∧ ys = acc ++ rest ∧ D₀ ∉ m2,
      ⟨ds.length, m1, S1, [], [], ys, by simp, Nat.zero_le _, Ext.new hD, ⟨(RE.wipeS own p1.env).keep (Keep.hide hD), R1.keep (Keep.hide hD) (fun b hb => List.mem_cons_of_mem _ (List.mem_append_right _ hb)) (fun a ha => by
          obtain ⟨u, q⟩ := R1.live ha
          rw [upd_ne (ne_of_none q hD)]) (fun b y q => by rw [upd_ne (ne_of_none q hD)]; exact q), fun b hb => ?_, p1.tab.ext fun b u q => by rw [upd_ne (ne_of_none q hD)]; exact q⟩, upd_same, .nil, Nat.zero_le _, by rw [List.drop_zero]; exact hL, rfl, fun z => by
          obtain ⟨u, q⟩ := R1.live z
          rw [hD] at q; cases q⟩, ?_⟩
    · rcases List.mem_cons.mp hb with z | z
      · rw [z]; exact ⟨_, upd_same, fun ps z => by cases z⟩
      · obtain ⟨u, q, qn⟩ := p1.ex b z
        exact ⟨u, by rw [upd_ne (ne_of_none q hD)]; exact q, qn⟩
    rintro i k H2 ⟨m2, S2, acc, vacc, rest, rfl, hi, E2, p2, hd2, r2, hv, hl, hy, nD⟩
    have hY := hJ (D₀ :: x) m2 H2 (fun b hb => by
      rcases List.mem_cons.mp hb with z | z
      · exact .inr (by rw [z]; exact hD)
      · exact .inl z) E2 p2.trk i
    by_cases hlt : i < ds.length
    · obtain ⟨hgo, hyl⟩ := hY.1 ds[i] (List.getElem?_eq_getElem hlt)
      rw [List.drop_eq_getElem_cons hlt] at hl
      simp only [lc2L] at hl
      refine .inr ⟨hgo, fun H3 => ∃ m3 S3 acc vacc rest, Ext (gOf X T) m1 H1 m3 H3 ∧ Rp (gOf X T) (D₀ :: x) m3 H3 (wipeE ρ own) S3 (L2.wipe σ own) ∧ H3 D₀ = some (.lst vacc) ∧
        RVs (gOf X T) (D₀ :: x ++ m3) H3 acc vacc ∧ vacc.length ≤ 1000 * (i + 1) ∧ lc2L tg1 t1 es tg2 t2 f vs1 (wipeE ρ own) (ds.drop (i + 1)) S3 = .ok rest Sf ∧ ys = acc ++ rest ∧ D₀ ∉ m3,
        fun H3 ⟨m3, S3, acc, vacc, rest, a1, a2, a3, a4, a5, a6, a7, a8⟩ => ⟨ds.length - (i + 1), by omega, m3, S3, acc, vacc, rest, rfl, hlt, a1, a2, a3, a4, a5, a6, a7, a8⟩, fun v H3 yv => ?_⟩
      obtain ⟨E3, k3, r3⟩ := hyl v H3 yv
      have R3 : RS (gOf X T) (D₀ :: x ++ m2) m2 H3 S2 := p2.sto.stay E3 fun a ha => k3 a ha (by obtain ⟨o, q⟩ := p2.sto.live ha; rw [q]; simp)
      have p3 := p2.ext E3 R3
      cases hs : setT tg1 ds[i] (wipeE ρ own) with
      | none => rw [hs] at hl; cases hl
      | some ρ' =>
        rw [hs] at hl
        dsimp only at hl
        refine tg_ok r3 p3.env hs ho fun σ' re' hw => ⟨by rw [hw, wipe_idem], ?_⟩
        have q3 : Rp (gOf X T) (D₀ :: x) m2 H3 ρ' S2 σ' := ⟨re', R3, p3.ex, p3.tab⟩
        have nD' : ∀ {m m' : List Addr} {H H' : Hp}, Ext (gOf X T) m H m' H' → D₀ ∉ m → Nt H D₀ → D₀ ∉ m' := fun E n q z => by
          obtain ⟨nw, e1, f1⟩ := E.pre
          rw [e1] at z
          rcases List.mem_append.mp z with z | z
          · exact n z
          · exact f1 _ z q
        have d3 : H3 D₀ = some (.lst vacc) := E3.keep _ _ hd2 nD (fun ps z => by cases z)
        refine ⟨D₀ :: x, m2, ρ', S2, q3, ?_⟩
        cases ht : t1 ρ' S2 with
        | un => rw [ht] at hl; cases hl
        | ex ee S' => rw [ht] at hl; cases hl
        | ok b S3 =>
          rw [ht] at hl
          intro m4 H4 E4 R4
          have q4 := q3.ext E4 R4
          have d4 : H4 D₀ = some (.lst vacc) := E4.keep _ _ d3 nD (fun ps z => by cases z)
          have n4 := nD' E4 nD ⟨_, d3, fun ps z => by cases z⟩
          cases b with
          | false =>
            exact iteF ⟨m4, S3, acc, vacc, rest, (E2.trans E3).trans E4, ⟨(p3.ext E4 R4).env, R4, (p3.ext E4 R4).ex, (p3.ext E4 R4).tab⟩, d4, r2.keep ((E3.trans E4).kp), by omega, hl, hy, n4⟩
          | true =>
            dsimp only at hl
            refine iteT ⟨a, rfl, ?_, ?_⟩
            · cases hes (D₀ :: x ++ m4) H4 with
              | tup h1 h2 => exact ⟨_, h1⟩
            · cases hf : lcL tg2 t2 f (wipeE ρ' vs1) es S3 with
              | un => rw [hf] at hl; cases hl
              | ex ee S' => rw [hf] at hl; cases hl
              | ok zs S4 =>
                rw [hf] at hl
                dsimp only at hl
                cases hr : lc2L tg1 t1 es tg2 t2 f vs1 (wipeE ρ own) (ds.drop (i + 1)) S4 with
                | un => rw [hr] at hl; cases hl
                | ex ee S' => rw [hr] at hl; cases hl
                | ok rest' S5 =>
                  rw [hr] at hl
                  cases hl
                  have hz : 1000 * i + es.length < sizeLine := by
                    have h3 : 1000 * i + es.length ≤ 1001000 := by
                      have := hbig.1
                      have := hbig.2
                      omega
                    exact Nat.lt_of_le_of_lt h3 (by rw [sizeLine_eq]; decide)
                  refine lc_inner ho2 hes hD p1.tab ((E2.trans E3).trans E4) q4 ((p3.ext E4 R4).env) d4 (r2.keep ((E3.trans E4).kp)) hv hz n4 hf fun m' H' vacc' E' R' x' t' oe' d' r' hv' nD' => ?_
                  exact ⟨m', S4, acc ++ zs, vacc', rest', E', ⟨oe', R', x', t'⟩, d', r', by have := hbig.2; omega, hr, by rw [hy, List.append_assoc], nD'⟩
    · have e : i = ds.length := by omega
      rw [e, List.drop_length] at hl
      cases hl
      rw [List.append_nil] at hy
      subst hy
      refine .inl ⟨hY.2 (by omega), ?_⟩
      have ks : Keep (gOf X T) (D₀ :: x ++ m2) H2 (x ++ m2) H2 := keep_sub fun a ha => List.mem_cons_of_mem _ ha
      refine h1 m2 H2 E2 (p2.sto.keep ks (fun b hb => List.mem_append_right _ hb) (fun _ _ => rfl) fun _ _ q => q) _ (.d (.lst hd2 (fun z => ?_) (r2.keep ks)))
      rcases List.mem_append.mp z with z | z
      · obtain ⟨o, q, _⟩ := p1.ex _ z
        rw [hD] at q; cases q
      · exact nD z
variable {elt tg iter tgB : Expr} {ifs ifs1 : List Expr} {scope : Scope} {pos : Pos} {fi : MI} {t1 t2 : MT} {f : ME}
theorem e_lc2 (tgt tgt2 : Tg) (own : List (Str × Nat)) (vs1 : List Nat) {c : Str} {es : List D} {cp : Pos} (kc : KD (gOf X T) c (.tup es)) (hc : X.calm = true) (hN : X.N.Nodup) (hi : PI X tg iter (tI (gOf X T) W fi)) (ok : BlkOk X.N X.env.scope scope own)
    (hg : ∀ (s : Shared) (H : Hp) (C : Addr) (cl : List (Str × Addr)) (fp : List Addr), PG (X.blk s H scope (compEnvC scope cl C X.env) fp) tg (gT X.K tgt))
    (ht : ∀ (s : Shared) (H : Hp) (C : Addr) (cl : List (Str × Addr)) (fp : List Addr), Takes (X.blk s H scope (compEnvC scope cl C X.env) fp) WF → PTs (X.blk s H scope (compEnvC scope cl C X.env) fp) ifs (tT (gOf (X.blk s H scope (compEnvC scope cl C X.env) fp) T) WF t1))
    (hg1 : ∀ (s : Shared) (H : Hp) (C : Addr) (cl : List (Str × Addr)) (fp : List Addr), PG (X.blk s H scope (compEnvC scope cl C X.env) fp) tgB (gT X.K tgt2))
    (ht1 : ∀ (s : Shared) (H : Hp) (C : Addr) (cl : List (Str × Addr)) (fp : List Addr), Takes (X.blk s H scope (compEnvC scope cl C X.env) fp) WF → PTs (X.blk s H scope (compEnvC scope cl C X.env) fp) ifs1 (tT (gOf (X.blk s H scope (compEnvC scope cl C X.env) fp) T) WF t2))
    (he : ∀ (s : Shared) (H : Hp) (C : Addr) (cl : List (Str × Addr)) (fp : List Addr), Takes (X.blk s H scope (compEnvC scope cl C X.env) fp) WF → PE (X.blk s H scope (compEnvC scope cl C X.env) fp) elt (tE (gOf (X.blk s H scope (compEnvC scope cl C X.env) fp) T) WF f))
    (ho : ∀ i ∈ tgt.ix, i ∈ own.map (·.2)) (ho2 : ∀ i ∈ tgt2.ix, i ∈ vs1) (hv : ∀ i ∈ vs1, i ∈ own.map (·.2))
    (hgl : ∀ (s : Shared) (H : Hp) (C : Addr) (cl : List (Str × Addr)) (fp : List Addr), Gl (X.blk s H scope (compEnvC scope cl C X.env) fp) c := by intros; rfl) (hd : (c == ("__debug__" : Str)) = false := by decide)
    (hs : ∀ x, foldedSetIterable iter X.env x = pure x := by intro _; rfl) (hs1 : ∀ env x, foldedSetIterable (.Name c cp) env x = pure x := by intro _ _; rfl) :
    PE X (.ListComp elt [⟨tg, iter, ifs, 0⟩, ⟨tgB, .Name c cp, ifs1, 0⟩] scope pos) (tE (gOf X T) W (lc2M fi tgt t1 es tgt2 t2 f (own.map (·.2)) vs1)) := by
  obtain ⟨u, v, k1, k2, k3⟩ := kc.ex
  obtain ⟨a, rfl⟩ : ∃ a, v = .ref a := by
    cases k3 [] (fun _ => none) with
    | tup _ _ => exact ⟨_, rfl⟩
  exact pe_mono (pe_lc2 hc hN hi ok hv hg (fun s H C cl fp => ht s H C cl fp takes0) (fun s H C cl fp => pi_tup (pe_glob (hgl s H C cl fp) k1 k2 hd)) hg1 (fun s H C cl fp => ht1 s H C cl fp takes0) (fun s H C cl fp => he s H C cl fp takes0) hs hs1) fun σ H Q h => lc2_red k3 ho ho2 h
/-! ### t.index(x): a tuple of texts -/
def fndS : List Str → Str → Option Nat
  | [], _ => none
  | y :: ys, z => if y = z then some 0 else (fndS ys z).map (· + 1)
theorem fndS_ok : ∀ {ys : List Str} {z : Str} {j : Nat}, fndS ys z = some j → ys[j]? = some z ∧ ∀ m, m < j → ys[m]? ≠ some z
  | [], _, _, h => by simp [fndS] at h
  | y :: ys, z, j, h => by
    unfold fndS at h
    split at h
    · rename_i e
      cases h
      exact ⟨by simp [e], fun m hm => by omega⟩
    · rename_i e
      obtain ⟨k, hk, rfl⟩ := Option.map_eq_some_iff.mp h
      obtain ⟨h1, h2⟩ := fndS_ok hk
      refine ⟨by simpa using h1, fun m hm => ?_⟩
      cases m with
      | zero => simpa using e
      | succ m => simpa using h2 m (by omega)
structure KT (G : Gc) (x : Str) (ys : List Str) : Prop where
  ex : ∃ (a : Addr) (its : Array Value) (n : Nat) (sl : Array (Option Value)), G.mg x = some (.ref a) ∧ G.K.lookup a = some ⟨.type "tuple", none, .seq its n, sl⟩ ∧ its.size ≤ 1000 ∧ Vals (ys.map V.str) its.toList
def idxM (ys : List Str) (g : ME) : ME := fun ρ S => (argsM [g] ρ S).bind fun us S2 => match us with
  | [.d (.str z)] => match fndS ys z with
    | some j => .ok (.d (.int (j : Nat))) S2
    | none => .un
  | _ => .un
theorem e_idx {x : Str} {ys : List Str} {e : Expr} {g : ME} {apos pos px : Pos} (kt : KT (gOf X T) x ys) (he : PE X e (tE (gOf X T) W g)) (hg : Gl X x := by rfl) (hd : (x == ("__debug__" : Str)) = false := by decide)
    (hbase : attributeBase (.Name x px) "index" X.env (eval (.Name x px) X.env) = eval (.Name x px) X.env := by rfl)
    (hfew : ((backTo pos (starEach (e :: []) X.env)).all (fun x => !x.1) && (backToKw pos (keywordEach [] X.env)).all (fun x => x.1.isSome)
      && decide ((e :: []).length + ([] : List Keyword).length + (if ([] : List Keyword).isEmpty then 0 else 1) < 30)) = true := by rfl)
    (hline : (apos.endLine == pos.line) = true := by rfl) (hs : starEach (e :: []) X.env = (false, eval e X.env) :: starEach [] X.env := by rfl) (hplain : (backTo pos (starEach [] X.env)).any (·.1) = false := by rfl) :
    PE X (.Call (.Attribute (.Name x px) "index" apos) [e] [] pos) (tE (gOf X T) W (idxM ys g)) := by
  obtain ⟨a, its, n, sl, h1, h2, h3, h4⟩ := kt.ex
  refine pe_mono (pe_bm PySem.F.plainAttrs_tuple PySem.F.slot_tuple_index PySem.F.type_tuple_index mt_tup_index (pe_glob hg h1 (v := .ref a) rfl hd) (a_cons he a_nil hs) hbase hfew hline hs hplain) fun σ H Q h => ?_
  obtain ⟨x, m, ρ, S, p, h⟩ := h
  refine ⟨.inr (.inl ⟨rfl, _, h2, rfl, rfl⟩), x, m, ρ, S, p, (Post.bind h).mono fun us S2 m2 H2 E2 R2 ⟨_, _, h2'⟩ ws rws => ?_⟩
  split at h2'
  · rename_i z
    split at h2'
    · rename_i j hj
      obtain ⟨g1, g2⟩ := fndS_ok hj
      cases rws with
      | cons r t => cases t; cases r with
        | d r =>
          cases r
          exact ⟨a, ys, _, j, rfl, rfl, .inr ⟨_, its, n, h2, rfl, rfl, Nat.le_of_lt (small1000 h3), h4⟩, g1, g2, h2' m2 H2 Ext.refl R2 _ (.d (.int _))⟩
    · exact h2'.elim
  · exact h2'.elim
theorem kt_of {P : Program} {w : World} {K : PySem.W.Frag} {mg : Str → Option Value} {h : Heap} {x : Str} {a : Addr} {its : Array Value} {n : Nat} {sl : Array (Option Value)} {ys : List Str} (X : K.In h) (G : h.Ns mainGlobals mg) (g : PySem.W.nsIn K mainGlobals x = some (some (.ref a))) (l : K.lookup a = some ⟨.type "tuple", none, .seq its n, sl⟩) (z : its.size ≤ 1000) (v : Vals (ys.map V.str) its.toList) :
    KT ⟨P, w, K, mg, T⟩ x ys := ⟨a, its, n, sl, PySem.W.mg_of X G g, l, z, v⟩
end
end Mir

/-! Mir22: classes named in except; dict(pairs); list.index; a tuple with cells that is handed back. -/
namespace Mir
open PySem PySem.Spec PyProof.Rows L2 RZ
theorem exm_is {K : PySem.W.Frag} {S C : Addr} {b : Bool} (h1 : PySem.W.subIn K (.ref C) (.type "BaseException") = some true) (h2 : PySem.W.isClsIn K C = true) (h3 : PySem.W.typeIn K (.ref C) = some (.type "type")) (h4 : PySem.W.subIn K (.ref S) (.ref C) = some b) :
    PySem.W.exmOne K (.ref S) (.ref C) = some b := by
  have e1 : (PySem.W.subIn K (.ref C) (.type "BaseException") == some true) = true := by rw [h1] <;> rfl
  have e2 : ((PySem.W.clsIn K C).isSome && PySem.W.typeIn K (.ref C) == some (.type "type")) = true := by
    have h2' : (PySem.W.clsIn K C).isSome = true := h2
    rw [h2', h3] <;> rfl
  show (if (PySem.W.subIn K (.ref C) (.type "BaseException") == some true) = true then (if ((PySem.W.clsIn K C).isSome && PySem.W.typeIn K (.ref C) == some (.type "type")) = true then PySem.W.subIn K (.ref S) (.ref C) else none) else none) = some b
  rw [if_pos e1, if_pos e2]
  exact h4
end Mir

/-! Pl: plain laws of the mirrors' words: walks, comprehensions, equality. -/
namespace Mir
open PySem PySem.Spec PyProof.Rows L2
theorem lcL_pure {tg : Tg} {t : MT} {f : ME} {ρ0 : Env} {S : Sto} (g : D → D) : ∀ ds : List D, (∀ d ∈ ds, ∃ ρ, setT tg d ρ0 = some ρ ∧ t ρ S = .ok true S ∧ f ρ S = .ok (.d (g d)) S) → lcL tg t f ρ0 ds S = .ok (ds.map g) S
  | [], _ => rfl
  | d :: ds, h => by
    obtain ⟨ρ, h1, h2, h3⟩ := h d List.mem_cons_self
    have ih := lcL_pure g ds fun x hx => h x (List.mem_cons_of_mem _ hx)
    simp only [lcL, h1, h2, h3, ih, List.map_cons]
/-- what comes in, what goes out, row by row -/
theorem lcL_rows {tg : Tg} {t : MT} {f : ME} {ρ0 : Env} {S : Sto} : ∀ {ps : List (D × D)} {ds ys : List D}, ds = ps.map (·.1) → ys = ps.map (·.2) → (∀ p ∈ ps, ∃ ρ, setT tg p.1 ρ0 = some ρ ∧ t ρ S = .ok true S ∧ f ρ S = .ok (.d p.2) S) → lcL tg t f ρ0 ds S = .ok ys S
  | [], _, _, e1, e2, _ => by subst e1 e2; rfl
  | p :: ps, _, _, e1, e2, h => by
    subst e1 e2
    obtain ⟨ρ, h1, h2, h3⟩ := h p List.mem_cons_self
    have ih := lcL_rows (ps := ps) rfl rfl fun x hx => h x (List.mem_cons_of_mem _ hx)
    simp only [List.map_cons, lcL, h1, h2, h3, ih]
/-- a comprehension with a test, pure -/
theorem lcL_filter {tg : Tg} {t : MT} {f : ME} {ρ0 : Env} {S : Sto} (p : D → Bool) (g : D → D) : ∀ ds : List D, (∀ d ∈ ds, ∃ ρ, setT tg d ρ0 = some ρ ∧ t ρ S = .ok (p d) S ∧ (p d = true → f ρ S = .ok (.d (g d)) S)) → lcL tg t f ρ0 ds S = .ok ((ds.filter p).map g) S
  | [], _ => rfl
  | d :: ds, h => by
    obtain ⟨ρ, h1, h2, h3⟩ := h d List.mem_cons_self
    have ih := lcL_filter p g ds fun x hx => h x (List.mem_cons_of_mem _ hx)
    cases hp : p d with
    | true => simp only [lcL, h1, h2, hp, h3 hp, ih, List.filter_cons_of_pos, List.map_cons]
    | false => simp only [lcL, h1, h2, hp, ih, Bool.false_eq_true, not_false_eq_true, List.filter_cons_of_neg]
theorem lcL_inv {tg : Tg} {t : MT} {f : ME} {ρ0 : Env} (I : Sto → Prop) (Pr : D → Prop) : ∀ (ds : List D) (S : Sto), (∀ d ∈ ds, ∀ S, I S → ∃ ρ S1 y S2, setT tg d ρ0 = some ρ ∧ t ρ S = .ok true S1 ∧ f ρ S1 = .ok (.d y) S2 ∧ I S2 ∧ Pr y) → I S →
    ∃ ys S', lcL tg t f ρ0 ds S = .ok ys S' ∧ I S' ∧ ys.length = ds.length ∧ ∀ y ∈ ys, Pr y
  | [], S, _, hI => ⟨[], S, rfl, hI, rfl, fun _ h => by cases h⟩
  | d :: ds, S, h, hI => by
    obtain ⟨ρ, S1, y, S2, h1, h2, h3, h4, h5⟩ := h d List.mem_cons_self S hI
    obtain ⟨ys, S', h6, h7, h8, h9⟩ := lcL_inv I Pr ds S2 (fun x hx => h x (List.mem_cons_of_mem _ hx)) h4
    exact ⟨y :: ys, S', by simp only [lcL, h1, h2, h3, h6], h7, by simp [h8], fun z hz => by
      rcases List.mem_cons.mp hz with q | q
      · rw [q]; exact h5
      · exact h9 z q⟩
theorem forL_inv {g : MG} {f : MS} (I : Env → Sto → Prop) : ∀ (ds : List D) (ρ : Env) (S : Sto), (∀ d ∈ ds, ∀ ρ S, I ρ S → ∃ q ρ' S', g (.d d) ρ S = some q ∧ (f q.1 q.2 = .nx ρ' S' ∨ f q.1 q.2 = .ct ρ' S') ∧ I ρ' S') → I ρ S → ∃ ρ' S', forL g f ds ρ S = .nx ρ' S' ∧ I ρ' S'
  | [], ρ, S, _, hI => ⟨ρ, S, rfl, hI⟩
  | d :: ds, ρ, S, h, hI => by
    obtain ⟨q, ρ', S', h1, h2, h3⟩ := h d List.mem_cons_self ρ S hI
    obtain ⟨ρ2, S2, h4, h5⟩ := forL_inv I ds ρ' S' (fun x hx => h x (List.mem_cons_of_mem _ hx)) h3
    refine ⟨ρ2, S2, ?_, h5⟩
    rcases h2 with h2 | h2 <;> simp only [forL, h1, h2, h4]
/-- a loop that grows what it has, turn by turn -/
theorem forL_fold {α : Type} {g : MG} {f : MS} (I : α → Env → Sto → Prop) (step : α → D → α) : ∀ (ds : List D) (a : α) (ρ : Env) (S : Sto), (∀ d ∈ ds, ∀ a ρ S, I a ρ S → ∃ q ρ' S', g (.d d) ρ S = some q ∧ (f q.1 q.2 = .nx ρ' S' ∨ f q.1 q.2 = .ct ρ' S') ∧ I (step a d) ρ' S') → I a ρ S → ∃ ρ' S', forL g f ds ρ S = .nx ρ' S' ∧ I (ds.foldl step a) ρ' S'
  | [], a, ρ, S, _, hI => ⟨ρ, S, rfl, hI⟩
  | d :: ds, a, ρ, S, h, hI => by
    obtain ⟨q, ρ', S', h1, h2, h3⟩ := h d List.mem_cons_self a ρ S hI
    obtain ⟨ρ2, S2, h4, h5⟩ := forL_fold I step ds (step a d) ρ' S' (fun x hx => h x (List.mem_cons_of_mem _ hx)) h3
    refine ⟨ρ2, S2, ?_, h5⟩
    rcases h2 with h2 | h2 <;> simp only [forL, h1, h2, h4]
/-! ### equality -/
mutual
/-- data without truths, dicts, not deeper than n -/
def cl : Nat → D → Bool
  | _, .non => true
  | _, .int _ => true
  | _, .str x => PyData.strOk x
  | n + 1, .tup xs => cls n xs
  | n + 1, .lst xs => cls n xs
  | _, _ => false
def cls : Nat → List D → Bool
  | _, [] => true
  | n, x :: xs => cl n x && cls n xs
end
mutual
theorem cl_can : ∀ (n : Nat) (d : D), cl n d = true → PyData.canLay0 d.P = true ∧ d.P.depth ≤ n
  | n, .non, _ => ⟨rfl, Nat.zero_le _⟩
  | n, .int _, _ => ⟨rfl, Nat.zero_le _⟩
  | n, .str x, h => ⟨by cases n <;> simpa [cl, D.P, PyData.canLay0] using h, Nat.zero_le _⟩
  | 0, .tup xs, h => by simp [cl] at h
  | 0, .lst xs, h => by simp [cl] at h
  | n + 1, .tup xs, h => by
    have := cls_can n xs (by simpa [cl] using h)
    refine ⟨this.1, ?_⟩
    exact Nat.succ_le_succ this.2
  | n + 1, .lst xs, h => by
    have := cls_can n xs (by simpa [cl] using h)
    refine ⟨this.1, ?_⟩
    exact Nat.succ_le_succ this.2
  | 0, .bl _, h => by simp [cl] at h
  | n + 1, .bl _, h => by simp [cl] at h
  | 0, .dic _ _ _, h => by simp [cl] at h
  | n + 1, .dic _ _ _, h => by simp [cl] at h
  | 0, .scr _, h => by simp [cl] at h
  | n + 1, .scr _, h => by simp [cl] at h
theorem cls_can : ∀ (n : Nat) (ds : List D), cls n ds = true → PyData.canLayAll0 (Ps ds) = true ∧ PyData.depthAll (Ps ds) ≤ n
  | n, [], _ => ⟨rfl, Nat.zero_le _⟩
  | n, d :: ds, h => by
    have h' := Bool.and_eq_true_iff.mp (show (cl n d && cls n ds) = true from h)
    have a := cl_can n d h'.1
    have b := cls_can n ds h'.2
    refine ⟨?_, ?_⟩
    · simp [Ps, PyData.canLayAll0, a.1, b.1]
    · exact Nat.max_le.mpr ⟨a.2, b.2⟩
end
theorem cl_sh {n : Nat} {d : D} (h : cl n d = true) (hn : n ≤ 64) : sh d = true := by
  have := cl_can n d h
  unfold sh SeqAt.shaped
  rw [this.1, decide_eq_true (Nat.le_trans this.2 hn)]
  rfl
mutual
theorem cl_eq : ∀ (n m : Nat) (x y : D), cl n x = true → cl m y = true → (eqD x y = true ↔ x = y)
  | n, m, .non, y, _, hy => by cases y <;> simp_all [eqD, D.P, PyData.eqv, cl]
  | n, m, .int i, y, _, hy => by cases y <;> simp_all [eqD, D.P, PyData.eqv, cl]
  | n, m, .str i, y, _, hy => by cases y <;> simp_all [eqD, D.P, PyData.eqv, cl]
  | 0, _, .tup xs, _, h, _ => by simp [cl] at h
  | 0, _, .lst xs, _, h, _ => by simp [cl] at h
  | n + 1, m, .tup xs, y, h, hy => by
    cases y with
    | tup ys =>
      cases m with
      | zero => simp [cl] at hy
      | succ m =>
        have := cls_eq n m xs ys (by simpa [cl] using h) (by simpa [cl] using hy)
        simpa [eqD, D.P, PyData.eqv] using this
    | _ => simp_all [eqD, D.P, PyData.eqv, cl]
  | n + 1, m, .lst xs, y, h, hy => by
    cases y with
    | lst ys =>
      cases m with
      | zero => simp [cl] at hy
      | succ m =>
        have := cls_eq n m xs ys (by simpa [cl] using h) (by simpa [cl] using hy)
        simpa [eqD, D.P, PyData.eqv] using this
    | _ => simp_all [eqD, D.P, PyData.eqv, cl]
  | 0, _, .bl _, _, h, _ => by simp [cl] at h
  | n + 1, _, .bl _, _, h, _ => by simp [cl] at h
  | 0, _, .dic _ _ _, _, h, _ => by simp [cl] at h
  | n + 1, _, .dic _ _ _, _, h, _ => by simp [cl] at h
  | 0, _, .scr _, _, h, _ => by simp [cl] at h
  | n + 1, _, .scr _, _, h, _ => by simp [cl] at h
theorem cls_eq : ∀ (n m : Nat) (xs ys : List D), cls n xs = true → cls m ys = true → (PyData.eqvAll (Ps xs) (Ps ys) = true ↔ xs = ys)
  | _, _, [], [], _, _ => by simp [Ps, PyData.eqvAll]
  | _, _, [], y :: ys, _, _ => by simp [Ps, PyData.eqvAll]
  | _, _, x :: xs, [], _, _ => by simp [Ps, PyData.eqvAll]
  | n, m, x :: xs, y :: ys, h, h' => by
    have a := Bool.and_eq_true_iff.mp (show (cl n x && cls n xs) = true from h)
    have b := Bool.and_eq_true_iff.mp (show (cl m y && cls m ys) = true from h')
    have e1 := cl_eq n m x y a.1 b.1
    have e2 := cls_eq n m xs ys a.2 b.2
    have e1' : PyData.eqv x.P y.P = true ↔ x = y := e1
    simp [Ps, PyData.eqvAll, e1', e2]
end
theorem eqG_cl {n m : Nat} {x y : D} (hx : cl n x = true) (hy : cl m y = true) (hn : n ≤ 64 := by decide) (hm : m ≤ 64 := by decide) : eqG x y = some (.bl (eqD x y)) := by
  unfold eqG
  rw [cl_sh hx hn, cl_sh hy hm]
  rfl
theorem neG_cl {n m : Nat} {x y : D} (hx : cl n x = true) (hy : cl m y = true) (hn : n ≤ 64 := by decide) (hm : m ≤ 64 := by decide) : neG x y = some (.bl (!eqD x y)) := by
  unfold neG
  rw [cl_sh hx hn, cl_sh hy hm]
  rfl
theorem eqG_refl {n : Nat} {x : D} (hx : cl n x = true) (hn : n ≤ 64 := by decide) : eqG x x = some (.bl true) := by
  rw [eqG_cl hx hx hn hn, (cl_eq n n x x hx hx).mpr rfl]
theorem neG_refl {n : Nat} {x : D} (hx : cl n x = true) (hn : n ≤ 64 := by decide) : neG x x = some (.bl false) := by
  rw [neG_cl hx hx hn hn, (cl_eq n n x x hx hx).mpr rfl]
  rfl
theorem eqG_int (i j : Int) : eqG (.int i) (.int j) = some (.bl (i == j)) := rfl
theorem neG_int (i j : Int) : neG (.int i) (.int j) = some (.bl (!(i == j))) := rfl
theorem cls_ints {n : Nat} : ∀ b : List Int, cls n (b.map D.int) = true
  | [] => by simp [cls]
  | i :: b => by
    have := cls_ints (n := n) b
    cases n <;> simpa [cls, cl] using this
theorem cl_ints {n : Nat} (b : List Int) : cl (n + 1) (.tup (b.map D.int)) = true := cls_ints b
theorem cl_nil {n : Nat} : cl (n + 1) (.tup []) = true := rfl
theorem neG_nil {n : Nat} {xs : List D} (h : cl n (.tup xs) = true) (hn : n ≤ 64 := by decide) : neG (.tup xs) (.tup []) = some (.bl (!xs.isEmpty)) := by
  rw [neG_cl (n := n) (m := 1) h cl_nil hn (by decide)]
  cases xs with
  | nil => rfl
  | cons _ _ => rfl
/-! ### answers, looked at by evaluation -/
def isOk (r : R) (d : D) : Bool := match r with
  | .ok x => cl 9 x && cl 9 d && eqD x d
  | _ => false
theorem isOk_eq {r : R} {d : D} (h : isOk r d = true) : r = .ok d := by
  unfold isOk at h
  split at h
  · simp only [Bool.and_eq_true] at h
    rw [(cl_eq 9 9 _ _ h.1.1 h.1.2).mp h.2]
  · cases h
def isBl (r : R) (b : Bool) : Bool := match r with
  | .ok (.bl c) => c == b
  | _ => false
theorem isBl_eq {r : R} {b : Bool} (h : isBl r b = true) : r = .ok (.bl b) := by
  unfold isBl at h
  split at h
  · rw [beq_iff_eq.mp h]
  · cases h
end Mir


/-! Sg: signs as maps of pairs of truths; how two are put together; in any order. -/
namespace Sg
abbrev B2 := Bool × Bool
def le (x y : B2) : Prop := (x.1 = true → y.1 = true) ∧ (x.2 = true → y.2 = true)
theorem le_refl (x : B2) : le x x := ⟨id, id⟩
theorem le_trans {x y z : B2} (h : le x y) (h' : le y z) : le x z := ⟨fun a => h'.1 (h.1 a), fun a => h'.2 (h.2 a)⟩
theorem le_anti {x y : B2} (h : le x y) (h' : le y x) : x = y := by
  obtain ⟨a, b⟩ := x
  obtain ⟨c, d⟩ := y
  obtain ⟨h1, h2⟩ := h
  obtain ⟨h3, h4⟩ := h'
  cases a <;> cases b <;> cases c <;> cases d <;> simp_all
def bot : B2 := (false, false)
theorem bot_le (x : B2) : le bot x := ⟨fun h => absurd h Bool.false_ne_true, fun h => absurd h Bool.false_ne_true⟩
/-- the least fixed point, reached in two steps -/
def fx (G : B2 → B2) : B2 := G (G bot)
def Mon (G : B2 → B2) : Prop := ∀ x y, le x y → le (G x) (G y)
theorem fx_fix {G : B2 → B2} (m : Mon G) : G (fx G) = fx G := by
  unfold fx
  have h1 : le bot (G bot) := bot_le _
  have h2 : le (G bot) (G (G bot)) := m _ _ h1
  have h3 : le (G (G bot)) (G (G (G bot))) := m _ _ h2
  by_cases e1 : G bot = bot
  · rw [e1, e1, e1]
  by_cases e2 : G (G bot) = G bot
  · rw [e2, e2]
  -- two steps up are the top
  have top : G (G bot) = (true, true) := by
    revert h1 h2 e1 e2
    generalize G bot = x
    generalize G x = y
    intro h1 h2 e1 e2
    obtain ⟨a, b⟩ := x
    obtain ⟨c, d⟩ := y
    obtain ⟨h3, h4⟩ := h2
    cases a <;> cases b <;> cases c <;> cases d <;> simp_all [bot]
  rw [top] at h3 ⊢
  obtain ⟨h4, h5⟩ := h3
  exact Prod.ext (h4 rfl) (h5 rfl)
theorem fx_least {G : B2 → B2} (m : Mon G) {p : B2} (h : le (G p) p) : le (fx G) p :=
  le_trans (m _ _ (le_trans (m _ _ (bot_le p)) h)) h
theorem fx_mono {G G' : B2 → B2} (m : Mon G) (m' : Mon G') (h : ∀ x, le (G x) (G' x)) : le (fx G) (fx G') :=
  fx_least m (le_trans (h _) (by rw [fx_fix m']; exact le_refl _))
/-- what a stretch makes of its doors: left doors, right doors -/
structure S where
  L : B2 → B2 → B2
  R : B2 → B2 → B2
theorem S.ext' {a b : S} (h : a.L = b.L) (h' : a.R = b.R) : a = b := by
  cases a; cases b
  cases h; cases h'
  rfl
structure S.Mon (s : S) : Prop where
  l : ∀ {x x' y y' : B2}, le x x' → le y y' → le (s.L x y) (s.L x' y')
  r : ∀ {x x' y y' : B2}, le x x' → le y y' → le (s.R x y) (s.R x' y')
/-- the inner doors: what the left one gives to the right one -/
def mid (s t : S) (x y : B2) : B2 → B2 := fun b => s.R x (t.L b y)
def bk (s t : S) (x y : B2) : B2 := fx (mid s t x y)
def join (s t : S) : S where
  L := fun x y => s.L x (t.L (bk s t x y) y)
  R := fun x y => t.R (bk s t x y) y
section
variable {s t : S}
theorem mid_mon (hs : s.Mon) (ht : t.Mon) (x y : B2) : Mon (mid s t x y) := fun _ _ h => hs.r (le_refl _) (ht.l h (le_refl _))
theorem bk_mono (hs : s.Mon) (ht : t.Mon) {x x' y y' : B2} (h : le x x') (h' : le y y') : le (bk s t x y) (bk s t x' y') :=
  fx_mono (mid_mon hs ht x y) (mid_mon hs ht x' y') fun _ => hs.r h (ht.l (le_refl _) h')
theorem join_mon (hs : s.Mon) (ht : t.Mon) : (join s t).Mon :=
  ⟨fun h h' => hs.l h (ht.l (bk_mono hs ht h h') h'), fun h h' => ht.r (bk_mono hs ht h h') h'⟩
end
/-! ### three of them -/
section
variable {A B C : S}
/-- the doors between A and B, between B and C -/
structure Sol (A B C : S) (x z : B2) (i1 b1 i2 b2 : B2) : Prop where
  e1 : B.L b1 i2 = i1
  e2 : A.R x i1 = b1
  e3 : C.L b2 z = i2
  e4 : B.R b1 i2 = b2
def Least (A B C : S) (x z : B2) (i1 b1 i2 b2 : B2) : Prop := ∀ j1 c1 j2 c2, Sol A B C x z j1 c1 j2 c2 → le i1 j1 ∧ le b1 c1 ∧ le i2 j2 ∧ le b2 c2
theorem sol_left (hA : A.Mon) (hB : B.Mon) (hC : C.Mon) (x z : B2) :
    let b2 := bk (join A B) C x z
    let i2 := C.L b2 z
    let b1 := bk A B x i2
    Sol A B C x z (B.L b1 i2) b1 i2 b2 ∧ Least A B C x z (B.L b1 i2) b1 i2 b2 := by
  intro b2 i2 b1
  have hJ := join_mon hA hB
  refine ⟨⟨rfl, fx_fix (mid_mon hA hB x i2), rfl, ?_⟩, fun j1 c1 j2 c2 s => ?_⟩
  · exact fx_fix (mid_mon hJ hC x z)
  · have h2 : le b2 c2 := by
      refine fx_least (mid_mon hJ hC x z) ?_
      show le (B.R (bk A B x (C.L c2 z)) (C.L c2 z)) c2
      rw [s.e3]
      have : le (bk A B x j2) c1 := fx_least (mid_mon hA hB x j2) (by
        show le (A.R x (B.L c1 j2)) c1
        rw [s.e1, s.e2]; exact le_refl _)
      have q := hB.r this (le_refl j2)
      rw [s.e4] at q
      exact q
    have h3 : le i2 j2 := by
      have q := hC.l h2 (le_refl z)
      rw [s.e3] at q
      exact q
    have h4 : le b1 c1 := by
      refine fx_least (mid_mon hA hB x i2) ?_
      show le (A.R x (B.L c1 i2)) c1
      have q := hA.r (le_refl x) (hB.l (le_refl c1) h3)
      rw [s.e1, s.e2] at q
      exact q
    refine ⟨?_, h4, h3, h2⟩
    have q := hB.l h4 h3
    rw [s.e1] at q
    exact q
theorem sol_right (hA : A.Mon) (hB : B.Mon) (hC : C.Mon) (x z : B2) :
    let b1 := bk A (join B C) x z
    let b2 := bk B C b1 z
    let i2 := C.L b2 z
    Sol A B C x z (B.L b1 i2) b1 i2 b2 ∧ Least A B C x z (B.L b1 i2) b1 i2 b2 := by
  intro b1 b2 i2
  have hJ := join_mon hB hC
  refine ⟨⟨rfl, fx_fix (mid_mon hA hJ x z), rfl, fx_fix (mid_mon hB hC b1 z)⟩, fun j1 c1 j2 c2 s => ?_⟩
  have inner : le (bk B C c1 z) c2 := fx_least (mid_mon hB hC c1 z) (by
    show le (B.R c1 (C.L c2 z)) c2
    rw [s.e3, s.e4]; exact le_refl _)
  have h1 : le b1 c1 := by
    refine fx_least (mid_mon hA hJ x z) ?_
    show le (A.R x (B.L c1 (C.L (bk B C c1 z) z))) c1
    have q1 := hC.l inner (le_refl z)
    rw [s.e3] at q1
    have q := hA.r (le_refl x) (hB.l (le_refl c1) q1)
    rw [s.e1, s.e2] at q
    exact q
  have h2 : le b2 c2 := le_trans (bk_mono hB hC h1 (le_refl z)) inner
  have h3 : le i2 j2 := by
    have q := hC.l h2 (le_refl z)
    rw [s.e3] at q
    exact q
  refine ⟨?_, h1, h3, h2⟩
  have q := hB.l h1 h3
  rw [s.e1] at q
  exact q
theorem join_assoc (hA : A.Mon) (hB : B.Mon) (hC : C.Mon) : join (join A B) C = join A (join B C) := by
  have key : ∀ x z, bk (join A B) C x z = bk B C (bk A (join B C) x z) z ∧ bk A B x (C.L (bk (join A B) C x z) z) = bk A (join B C) x z := fun x z => by
    obtain ⟨s1, l1⟩ := sol_left hA hB hC x z
    obtain ⟨s2, l2⟩ := sol_right hA hB hC x z
    obtain ⟨_, a2, _, a4⟩ := l1 _ _ _ _ s2
    obtain ⟨_, b2, _, b4⟩ := l2 _ _ _ _ s1
    exact ⟨le_anti a4 b4, le_anti a2 b2⟩
  have eL : (join (join A B) C).L = (join A (join B C)).L := by
    funext x z
    obtain ⟨k1, k2⟩ := key x z
    show A.L x (B.L (bk A B x (C.L (bk (join A B) C x z) z)) (C.L (bk (join A B) C x z) z)) = A.L x (B.L (bk A (join B C) x z) (C.L (bk B C (bk A (join B C) x z) z) z))
    rw [k2, k1]
  have eR : (join (join A B) C).R = (join A (join B C)).R := by
    funext x z
    obtain ⟨k1, _⟩ := key x z
    show C.R (bk (join A B) C x z) z = C.R (bk B C (bk A (join B C) x z) z) z
    rw [k1]
  exact S.ext' eL eR
/-- nothing between the doors -/
def one : S where
  L := fun _ y => y
  R := fun x _ => x
theorem one_mon : one.Mon := ⟨fun _ h => h, fun h _ => h⟩
theorem one_join (s : S) : join one s = s := by
  have k : ∀ x y, bk one s x y = x := fun x y => rfl
  show S.mk _ _ = S.mk _ _
  congr 1
theorem join_one (hs : A.Mon) : join A one = A := by
  have k : ∀ x y, bk A one x y = A.R x y := fun x y => rfl
  show S.mk _ _ = S.mk _ _
  congr 1
end
/-- the doors in between, step by step at the same time: the least answer of both -/
theorem both_least {s t : S} (hs : s.Mon) (ht : t.Mon) {x y i b : B2} (h1 : t.L b y = i) (h2 : s.R x i = b) (hl : ∀ j c, t.L c y = j → s.R x j = c → le i j ∧ le b c) : b = bk s t x y ∧ i = t.L (bk s t x y) y := by
  have fixp : s.R x (t.L (bk s t x y) y) = bk s t x y := fx_fix (mid_mon hs ht x y)
  have e : b = bk s t x y := by
    refine le_anti (hl _ _ rfl fixp).2 (fx_least (mid_mon hs ht x y) ?_)
    show le (s.R x (t.L b y)) b
    rw [h1, h2]; exact le_refl _
  exact ⟨e, by rw [← e, h1]⟩
end Sg

namespace Q
open PySem PySem.Spec PyProof.Rows L2 Mir
def topS (i : Nat) : Stmt := PySem.Challenge.pw_stoneroads_k03_signs_put_together.main.body.getD i (.Pass ⟨0, 0, 0, 0⟩)
theorem blt_all : bootBuiltins "all" = some (.builtin "all") := by decide +kernel
theorem blt_bool : bootBuiltins "bool" = some (.type "bool") := by decide +kernel
theorem blt_int : bootBuiltins "int" = some (.type "int") := by decide +kernel
theorem blt_isinstance : bootBuiltins "isinstance" = some (.builtin "isinstance") := by decide +kernel
theorem blt_len : bootBuiltins "len" = some (.builtin "len") := by decide +kernel
theorem blt_list : bootBuiltins "list" = some (.type "list") := by decide +kernel
theorem blt_range : bootBuiltins "range" = some (.type "range") := by decide +kernel
theorem blt_str : bootBuiltins "str" = some (.type "str") := by decide +kernel
theorem blt_sum : bootBuiltins "sum" = some (.builtin "sum") := by decide +kernel
theorem blt_tuple : bootBuiltins "tuple" = some (.type "tuple") := by decide +kernel
theorem blt_zip : bootBuiltins "zip" = some (.type "zip") := by decide +kernel
def Y_PLAYERS : List Str := ["first", "second"]
def K_FIGURES : D := (.tup [(.int 1), (.int 2), (.int 4), (.int 8), (.int 16), (.int 32), (.int 64), (.int 128), (.int 256), (.int 512), (.int 1024), (.int 2048), (.int 4096), (.int 8192), (.int 16384), (.int 32768)])
def K_LOTS : D := (.tup [(.int 0), (.int 1), (.int 2), (.int 3), (.int 4), (.int 5), (.int 6), (.int 7), (.int 8), (.int 9), (.int 10), (.int 11), (.int 12), (.int 13), (.int 14), (.int 15)])
def K_PLAYERS : D := (.tup [(.str "first"), (.str "second")])
def E_POWERS : List D := [(.int 1), (.int 2), (.int 4), (.int 8)]
def K_POWERS : D := .tup E_POWERS
def K_WAYS : D := (.tup [(.str "left"), (.str "right"), (.str "stay")])
def sub_t : List (Str × Str × Bool) := [("InvalidSign", "InvalidSign", true), ("InvalidSign", "RoadError", true)]
/-- what the top has left: the built-in names, the constants, the classes -/
structure Bn (P : Program) (w : World) (K : PySem.W.Frag) (mg : Str → Option Value) (T : List (Addr × Str)) : Prop where
  all : mg "all" = none
  bool : mg "bool" = none
  int : mg "int" = none
  isinstance : mg "isinstance" = none
  len : mg "len" = none
  list : mg "list" = none
  range : mg "range" = none
  str : mg "str" = none
  sum : mg "sum" = none
  tuple : mg "tuple" = none
  zip : mg "zip" = none
  k_FIGURES : KD ⟨P, w, K, mg, T⟩ "FIGURES" K_FIGURES
  k_LOTS : KD ⟨P, w, K, mg, T⟩ "LOTS" K_LOTS
  k_PLAYERS : KD ⟨P, w, K, mg, T⟩ "PLAYERS" K_PLAYERS
  k_POWERS : KD ⟨P, w, K, mg, T⟩ "POWERS" K_POWERS
  k_WAYS : KD ⟨P, w, K, mg, T⟩ "WAYS" K_WAYS
  t_PLAYERS : KT ⟨P, w, K, mg, T⟩ "PLAYERS" Y_PLAYERS
  x_InvalidSign : XC ⟨P, w, K, mg, T⟩ "InvalidSign"
  c_InvalidSign : ∃ C, mg "InvalidSign" = some (.ref C)
  c_RoadError : ∃ C, mg "RoadError" = some (.ref C)
  sub : XS ⟨P, w, K, mg, T⟩ sub_t
noncomputable section
variable {P : Program} {w : World} {K : PySem.W.Frag} {mg : Str → Option Value} {base : Heap} {T : List (Addr × Str)}
abbrev s_is_number : Stmt := topS 9
abbrev N_is_number : List Str := ["value", "low", "high"]
abbrev p_is_number : List Str := ["value", "low", "high"]
theorem c_is_number : FnScope N_is_number p_is_number (defScope s_is_number) := ⟨rfl, rfl, rfl, by decide +kernel, rfl, by decide +kernel, by decide +kernel⟩
def m_is_number : MS :=
  (retM (andM (isM .int (varM 0)) (andM (notM (isM .bool (varM 0))) (chM leG leG (varM 1) (varM 0) (varM 2)))))
def F_is_number : List D → R := run0 3 m_is_number
theorem d_is_number {f : Addr} {k : Nat} (B : Bn P w K mg T) : Der P w K mg base T N_is_number "is_number" s_is_number f k m_is_number := fun cdv A outer s H E hr hu tk po =>
  have nd : N_is_number.Nodup := c_is_number.nd; have hu4 := Nat.lt_of_succ_lt hu
  (s_one (s_ret (e_and (e_isi .int B.isinstance B.int blt_int (e_var 0)) (e_and (e_not (e_isi .bool B.isinstance B.bool blt_bool (e_var 0))) (e_one (e_ch o_le o_le (e_var 1) (e_var 0) (e_var 2)))))))
theorem ok_is_number {f : Addr} {fd : FuncData} {k : Nat} (B : Bn P w K mg T) (Fu : Fun K "is_number" "is_number" s_is_number f fd) : FnOk P w K mg base (L2.CX P w) (k + 1) f fd p_is_number (sp0 ⟨P, w, K, mg, T⟩ 3 F_is_number) :=
  ok0 Fu c_is_number (d_is_number B) rfl (fun _ _ => rfl)
abbrev s_are_ways : Stmt := topS 10
abbrev N_are_ways : List Str := ["value", "one", "other"]
abbrev p_are_ways : List Str := ["value"]
theorem c_are_ways : FnScope N_are_ways p_are_ways (defScope s_are_ways) := ⟨rfl, rfl, rfl, by decide +kernel, rfl, by decide +kernel, by decide +kernel⟩
def m_are_ways : MS :=
  (seqM (ifM (orT (notT (tstM (isM .tuple (varM 0)))) (notT (tstM (biM allB [(lcM (seqI (varM 0)) (.one 1) yesM (andM (isM .str (varM 1)) (op2M inG (varM 1) (conM K_WAYS))) [1])])))) (retM (conM (.bl false))) nxtM)
    (retM (biM allB [(lcM (zpBI (varM 0) (slM (varM 0) (someP (conM (.int 1))) noP)) (.many [1, 2]) yesM (op2M ltG (varM 1) (varM 2)) [1, 2])])))
def F_are_ways : List D → R := run0 3 m_are_ways
theorem d_are_ways {f : Addr} {k : Nat} (B : Bn P w K mg T) : Der P w K mg base T N_are_ways "are_ways" s_are_ways f k m_are_ways := fun cdv A outer s H E hr hu tk po =>
  have nd : N_are_ways.Nodup := c_are_ways.nd; have hu4 := Nat.lt_of_succ_lt hu
  (s_cons (s_if (PW.pt (w_or (t_not (t_val (e_isi .tuple B.isinstance B.tuple blt_tuple (e_var 0)))) (w_or1 (t_not (t_val (e_bi (c_all rfl) B.all blt_all (a_cons (e_lc (.one 1) [("one", 1)] rfl nd (i_seq (e_var 0)) (blkOk_by (N := N_are_ways) (sc := defScope s_are_ways) (by decide +kernel)) (fun _ _ _ _ _ => (pg_name (i := 1) nd rfl (Or.inl rfl))) (fun _ _ _ _ _ tk => ts_nil) (fun _ _ _ _ _ tk => (e_and (e_isi .str B.isinstance B.str blt_str (e_var 1)) (e_one (e_cmp (o_in hu) (e_var 1) (e_glob B.k_WAYS))))) (by decide)) a_nil))))))) (s_one (s_ret e_bl)) s_nil)
    (s_one (s_ret (e_bi (c_all rfl) B.all blt_all (a_cons (e_lc (.many [1, 2]) [("one", 1), ("other", 2)] rfl nd (i_zip2 B.zip (a_cons (e_var 0) (a_cons (e_sl (e_var 0) (p_some e_int) p_none) a_nil))) (blkOk_by (N := N_are_ways) (sc := defScope s_are_ways) (by decide +kernel)) (fun _ _ _ _ _ => (pg_tup rfl (gns_cons (pg_name (i := 1) nd rfl (Or.inl rfl)) (gns_cons (pg_name (i := 2) nd rfl (Or.inl rfl)) gns_nil)))) (fun _ _ _ _ _ tk => ts_nil) (fun _ _ _ _ _ tk => (e_cmp o_lt (e_var 1) (e_var 2))) (by decide)) a_nil)))))
theorem ok_are_ways {f : Addr} {fd : FuncData} {k : Nat} (B : Bn P w K mg T) (Fu : Fun K "are_ways" "are_ways" s_are_ways f fd) : FnOk P w K mg base (L2.CX P w) (k + 1) f fd p_are_ways (sp0 ⟨P, w, K, mg, T⟩ 1 F_are_ways) :=
  ok0 Fu c_are_ways (d_are_ways B) rfl (fun _ _ => rfl)
abbrev s_is_kind : Stmt := topS 11
abbrev N_is_kind : List Str := ["value", "one"]
abbrev p_is_kind : List Str := ["value"]
theorem c_is_kind : FnScope N_is_kind p_is_kind (defScope s_is_kind) := ⟨rfl, rfl, rfl, by decide +kernel, rfl, by decide +kernel, by decide +kernel⟩
def m_is_kind : MS :=
  (retM (andM (isM .tuple (varM 0)) (andM (op2M eqG (biM lenG [(varM 0)]) (conM (.int 2))) (biM allB [(lcM (seqI (varM 0)) (.one 1) yesM (callM F_are_ways [(varM 1)]) [1])]))))
def F_is_kind : List D → R := run0 2 m_is_kind
theorem d_is_kind {f : Addr} {k : Nat} (B : Bn P w K mg T) (h_are_ways : Kn ⟨P, w, K, mg, T⟩ base k "are_ways" (sp0 ⟨P, w, K, mg, T⟩ 1 F_are_ways)) : Der P w K mg base T N_is_kind "is_kind" s_is_kind f k m_is_kind := fun cdv A outer s H E hr hu tk po =>
  have nd : N_is_kind.Nodup := c_is_kind.nd; have hu4 := Nat.lt_of_succ_lt hu
  (s_one (s_ret (e_and (e_isi .tuple B.isinstance B.tuple blt_tuple (e_var 0)) (e_and (e_cmp (o_eq hu4) (e_bi c_len B.len blt_len (a_cons (e_var 0) a_nil)) e_int) (e_one (e_bi (c_all rfl) B.all blt_all (a_cons (e_lc (.one 1) [("one", 1)] rfl nd (i_seq (e_var 0)) (blkOk_by (N := N_is_kind) (sc := defScope s_is_kind) (by decide +kernel)) (fun _ _ _ _ _ => (pg_name (i := 1) nd rfl (Or.inl rfl))) (fun _ _ _ _ _ tk => ts_nil) (fun _ _ _ _ _ tk => (e_call h_are_ways hr tk rfl (a_cons (e_var 1) a_nil))) (by decide)) a_nil)))))))
theorem ok_is_kind {f : Addr} {fd : FuncData} {k : Nat} (B : Bn P w K mg T) (h_are_ways : Kn ⟨P, w, K, mg, T⟩ base k "are_ways" (sp0 ⟨P, w, K, mg, T⟩ 1 F_are_ways)) (Fu : Fun K "is_kind" "is_kind" s_is_kind f fd) : FnOk P w K mg base (L2.CX P w) (k + 1) f fd p_is_kind (sp0 ⟨P, w, K, mg, T⟩ 1 F_is_kind) :=
  ok0 Fu c_is_kind (d_is_kind B h_are_ways) rfl (fun _ _ => rfl)
abbrev s_are_kinds : Stmt := topS 12
abbrev N_are_kinds : List Str := ["value", "one"]
abbrev p_are_kinds : List Str := ["value"]
theorem c_are_kinds : FnScope N_are_kinds p_are_kinds (defScope s_are_kinds) := ⟨rfl, rfl, rfl, by decide +kernel, rfl, by decide +kernel, by decide +kernel⟩
def m_are_kinds : MS :=
  (retM (andM (isM .tuple (varM 0)) (andM (chM leG leG (conM (.int 1)) (biM lenG [(varM 0)]) (conM (.int 4))) (biM allB [(lcM (seqI (varM 0)) (.one 1) yesM (callM F_is_kind [(varM 1)]) [1])]))))
def F_are_kinds : List D → R := run0 2 m_are_kinds
theorem d_are_kinds {f : Addr} {k : Nat} (B : Bn P w K mg T) (h_is_kind : Kn ⟨P, w, K, mg, T⟩ base k "is_kind" (sp0 ⟨P, w, K, mg, T⟩ 1 F_is_kind)) : Der P w K mg base T N_are_kinds "are_kinds" s_are_kinds f k m_are_kinds := fun cdv A outer s H E hr hu tk po =>
  have nd : N_are_kinds.Nodup := c_are_kinds.nd; have hu4 := Nat.lt_of_succ_lt hu
  (s_one (s_ret (e_and (e_isi .tuple B.isinstance B.tuple blt_tuple (e_var 0)) (e_and (e_ch o_le o_le e_int (e_bi c_len B.len blt_len (a_cons (e_var 0) a_nil)) e_int) (e_one (e_bi (c_all rfl) B.all blt_all (a_cons (e_lc (.one 1) [("one", 1)] rfl nd (i_seq (e_var 0)) (blkOk_by (N := N_are_kinds) (sc := defScope s_are_kinds) (by decide +kernel)) (fun _ _ _ _ _ => (pg_name (i := 1) nd rfl (Or.inl rfl))) (fun _ _ _ _ _ tk => ts_nil) (fun _ _ _ _ _ tk => (e_call h_is_kind hr tk rfl (a_cons (e_var 1) a_nil))) (by decide)) a_nil)))))))
theorem ok_are_kinds {f : Addr} {fd : FuncData} {k : Nat} (B : Bn P w K mg T) (h_is_kind : Kn ⟨P, w, K, mg, T⟩ base k "is_kind" (sp0 ⟨P, w, K, mg, T⟩ 1 F_is_kind)) (Fu : Fun K "are_kinds" "are_kinds" s_are_kinds f fd) : FnOk P w K mg base (L2.CX P w) (k + 1) f fd p_are_kinds (sp0 ⟨P, w, K, mg, T⟩ 1 F_are_kinds) :=
  ok0 Fu c_are_kinds (d_are_kinds B h_is_kind) rfl (fun _ _ => rfl)
abbrev s_is_stretch_of : Stmt := topS 13
abbrev N_is_stretch_of : List Str := ["kinds", "value", "most", "one"]
abbrev p_is_stretch_of : List Str := ["kinds", "value", "most"]
theorem c_is_stretch_of : FnScope N_is_stretch_of p_is_stretch_of (defScope s_is_stretch_of) := ⟨rfl, rfl, rfl, by decide +kernel, rfl, by decide +kernel, by decide +kernel⟩
def m_is_stretch_of : MS :=
  (seqM (ifM (orT (notT (tstM (isM .tuple (varM 1)))) (tstM (op2M gtG (biM lenG [(varM 1)]) (varM 2)))) (retM (conM (.bl false))) nxtM)
    (retM (biM allB [(lcM (seqI (varM 1)) (.one 3) yesM (callM F_is_number [(varM 3), (conM (.int 0)), (op2M subG (biM lenG [(varM 0)]) (conM (.int 1)))]) [3])])))
def F_is_stretch_of : List D → R := run0 4 m_is_stretch_of
theorem d_is_stretch_of {f : Addr} {k : Nat} (B : Bn P w K mg T) (h_is_number : Kn ⟨P, w, K, mg, T⟩ base k "is_number" (sp0 ⟨P, w, K, mg, T⟩ 3 F_is_number)) : Der P w K mg base T N_is_stretch_of "is_stretch_of" s_is_stretch_of f k m_is_stretch_of := fun cdv A outer s H E hr hu tk po =>
  have nd : N_is_stretch_of.Nodup := c_is_stretch_of.nd; have hu4 := Nat.lt_of_succ_lt hu
  (s_cons (s_if (PW.pt (w_or (t_not (t_val (e_isi .tuple B.isinstance B.tuple blt_tuple (e_var 1)))) (w_or1 (t_cmp o_gt (e_bi c_len B.len blt_len (a_cons (e_var 1) a_nil)) (e_var 2))))) (s_one (s_ret e_bl)) s_nil)
    (s_one (s_ret (e_bi (c_all rfl) B.all blt_all (a_cons (e_lc (.one 3) [("one", 3)] rfl nd (i_seq (e_var 1)) (blkOk_by (N := N_is_stretch_of) (sc := defScope s_is_stretch_of) (by decide +kernel)) (fun _ _ _ _ _ => (pg_name (i := 3) nd rfl (Or.inl rfl))) (fun _ _ _ _ _ tk => ts_nil) (fun _ _ _ _ _ tk => (e_call h_is_number hr tk rfl (a_cons (e_var 3) (a_cons e_int (a_cons (e_op o_sub (e_bi c_len B.len blt_len (a_cons (e_var 0) a_nil)) e_int) a_nil))))) (by decide)) a_nil)))))
theorem ok_is_stretch_of {f : Addr} {fd : FuncData} {k : Nat} (B : Bn P w K mg T) (h_is_number : Kn ⟨P, w, K, mg, T⟩ base k "is_number" (sp0 ⟨P, w, K, mg, T⟩ 3 F_is_number)) (Fu : Fun K "is_stretch_of" "is_stretch_of" s_is_stretch_of f fd) : FnOk P w K mg base (L2.CX P w) (k + 1) f fd p_is_stretch_of (sp0 ⟨P, w, K, mg, T⟩ 3 F_is_stretch_of) :=
  ok0 Fu c_is_stretch_of (d_is_stretch_of B h_is_number) rfl (fun _ _ => rfl)
abbrev s_is_player : Stmt := topS 14
abbrev N_is_player : List Str := ["value"]
abbrev p_is_player : List Str := ["value"]
theorem c_is_player : FnScope N_is_player p_is_player (defScope s_is_player) := ⟨rfl, rfl, rfl, by decide +kernel, rfl, by decide +kernel, by decide +kernel⟩
def m_is_player : MS :=
  (retM (andM (isM .str (varM 0)) (op2M inG (varM 0) (conM K_PLAYERS))))
def F_is_player : List D → R := run0 1 m_is_player
theorem d_is_player {f : Addr} {k : Nat} (B : Bn P w K mg T) : Der P w K mg base T N_is_player "is_player" s_is_player f k m_is_player := fun cdv A outer s H E hr hu tk po =>
  have nd : N_is_player.Nodup := c_is_player.nd; have hu4 := Nat.lt_of_succ_lt hu
  (s_one (s_ret (e_and (e_isi .str B.isinstance B.str blt_str (e_var 0)) (e_one (e_cmp (o_in hu) (e_var 0) (e_glob B.k_PLAYERS))))))
theorem ok_is_player {f : Addr} {fd : FuncData} {k : Nat} (B : Bn P w K mg T) (Fu : Fun K "is_player" "is_player" s_is_player f fd) : FnOk P w K mg base (L2.CX P w) (k + 1) f fd p_is_player (sp0 ⟨P, w, K, mg, T⟩ 1 F_is_player) :=
  ok0 Fu c_is_player (d_is_player B) rfl (fun _ _ => rfl)
abbrev s_other_player : Stmt := topS 15
abbrev N_other_player : List Str := ["player"]
abbrev p_other_player : List Str := ["player"]
theorem c_other_player : FnScope N_other_player p_other_player (defScope s_other_player) := ⟨rfl, rfl, rfl, by decide +kernel, rfl, by decide +kernel, by decide +kernel⟩
def m_other_player : MS :=
  (retM (op2M ixG (conM K_PLAYERS) (op2M subG (conM (.int 1)) (idxM Y_PLAYERS (varM 0)))))
def F_other_player : List D → R := run0 1 m_other_player
theorem d_other_player {f : Addr} {k : Nat} (B : Bn P w K mg T) : Der P w K mg base T N_other_player "other_player" s_other_player f k m_other_player := fun cdv A outer s H E hr hu tk po =>
  have nd : N_other_player.Nodup := c_other_player.nd; have hu4 := Nat.lt_of_succ_lt hu
  (s_one (s_ret (e_ix hu (e_glob B.k_PLAYERS) (e_op o_sub e_int (e_idx B.t_PLAYERS (e_var 0))))))
theorem ok_other_player {f : Addr} {fd : FuncData} {k : Nat} (B : Bn P w K mg T) (Fu : Fun K "other_player" "other_player" s_other_player f fd) : FnOk P w K mg base (L2.CX P w) (k + 1) f fd p_other_player (sp0 ⟨P, w, K, mg, T⟩ 1 F_other_player) :=
  ok0 Fu c_other_player (d_other_player B) rfl (fun _ _ => rfl)
abbrev s_need_kinds : Stmt := topS 16
abbrev N_need_kinds : List Str := ["kinds"]
abbrev p_need_kinds : List Str := ["kinds"]
theorem c_need_kinds : FnScope N_need_kinds p_need_kinds (defScope s_need_kinds) := ⟨rfl, rfl, rfl, by decide +kernel, rfl, by decide +kernel, by decide +kernel⟩
def m_need_kinds : MS :=
  (ifM (notT (tstM (callM F_are_kinds [(varM 0)]))) unM nxtM)
def F_need_kinds : List D → R := run0 1 m_need_kinds
theorem d_need_kinds {f : Addr} {k : Nat} (B : Bn P w K mg T) (h_are_kinds : Kn ⟨P, w, K, mg, T⟩ base k "are_kinds" (sp0 ⟨P, w, K, mg, T⟩ 1 F_are_kinds)) : Der P w K mg base T N_need_kinds "need_kinds" s_need_kinds f k m_need_kinds := fun cdv A outer s H E hr hu tk po =>
  have nd : N_need_kinds.Nodup := c_need_kinds.nd; have hu4 := Nat.lt_of_succ_lt hu
  (s_one (s_if (t_not (t_val (e_call h_are_kinds hr tk rfl (a_cons (e_var 0) a_nil)))) (s_one s_un) s_nil))
theorem ok_need_kinds {f : Addr} {fd : FuncData} {k : Nat} (B : Bn P w K mg T) (h_are_kinds : Kn ⟨P, w, K, mg, T⟩ base k "are_kinds" (sp0 ⟨P, w, K, mg, T⟩ 1 F_are_kinds)) (Fu : Fun K "need_kinds" "need_kinds" s_need_kinds f fd) : FnOk P w K mg base (L2.CX P w) (k + 1) f fd p_need_kinds (sp0 ⟨P, w, K, mg, T⟩ 1 F_need_kinds) :=
  ok0 Fu c_need_kinds (d_need_kinds B h_are_kinds) rfl (fun _ _ => rfl)
abbrev s_need_stretch : Stmt := topS 17
abbrev N_need_stretch : List Str := ["kinds", "stretch", "most"]
abbrev p_need_stretch : List Str := ["kinds", "stretch", "most"]
theorem c_need_stretch : FnScope N_need_stretch p_need_stretch (defScope s_need_stretch) := ⟨rfl, rfl, rfl, by decide +kernel, rfl, by decide +kernel, by decide +kernel⟩
def m_need_stretch : MS :=
  (ifM (notT (tstM (callM F_is_stretch_of [(varM 0), (varM 1), (varM 2)]))) unM nxtM)
def F_need_stretch : List D → R := run0 3 m_need_stretch
theorem d_need_stretch {f : Addr} {k : Nat} (B : Bn P w K mg T) (h_is_stretch_of : Kn ⟨P, w, K, mg, T⟩ base k "is_stretch_of" (sp0 ⟨P, w, K, mg, T⟩ 3 F_is_stretch_of)) : Der P w K mg base T N_need_stretch "need_stretch" s_need_stretch f k m_need_stretch := fun cdv A outer s H E hr hu tk po =>
  have nd : N_need_stretch.Nodup := c_need_stretch.nd; have hu4 := Nat.lt_of_succ_lt hu
  (s_one (s_if (t_not (t_val (e_call h_is_stretch_of hr tk rfl (a_cons (e_var 0) (a_cons (e_var 1) (a_cons (e_var 2) a_nil)))))) (s_one s_un) s_nil))
theorem ok_need_stretch {f : Addr} {fd : FuncData} {k : Nat} (B : Bn P w K mg T) (h_is_stretch_of : Kn ⟨P, w, K, mg, T⟩ base k "is_stretch_of" (sp0 ⟨P, w, K, mg, T⟩ 3 F_is_stretch_of)) (Fu : Fun K "need_stretch" "need_stretch" s_need_stretch f fd) : FnOk P w K mg base (L2.CX P w) (k + 1) f fd p_need_stretch (sp0 ⟨P, w, K, mg, T⟩ 3 F_need_stretch) :=
  ok0 Fu c_need_stretch (d_need_stretch B h_is_stretch_of) rfl (fun _ _ => rfl)
abbrev s_need_player : Stmt := topS 18
abbrev N_need_player : List Str := ["player"]
abbrev p_need_player : List Str := ["player"]
theorem c_need_player : FnScope N_need_player p_need_player (defScope s_need_player) := ⟨rfl, rfl, rfl, by decide +kernel, rfl, by decide +kernel, by decide +kernel⟩
def m_need_player : MS :=
  (ifM (notT (tstM (callM F_is_player [(varM 0)]))) unM nxtM)
def F_need_player : List D → R := run0 1 m_need_player
theorem d_need_player {f : Addr} {k : Nat} (B : Bn P w K mg T) (h_is_player : Kn ⟨P, w, K, mg, T⟩ base k "is_player" (sp0 ⟨P, w, K, mg, T⟩ 1 F_is_player)) : Der P w K mg base T N_need_player "need_player" s_need_player f k m_need_player := fun cdv A outer s H E hr hu tk po =>
  have nd : N_need_player.Nodup := c_need_player.nd; have hu4 := Nat.lt_of_succ_lt hu
  (s_one (s_if (t_not (t_val (e_call h_is_player hr tk rfl (a_cons (e_var 0) a_nil)))) (s_one s_un) s_nil))
theorem ok_need_player {f : Addr} {fd : FuncData} {k : Nat} (B : Bn P w K mg T) (h_is_player : Kn ⟨P, w, K, mg, T⟩ base k "is_player" (sp0 ⟨P, w, K, mg, T⟩ 1 F_is_player)) (Fu : Fun K "need_player" "need_player" s_need_player f fd) : FnOk P w K mg base (L2.CX P w) (k + 1) f fd p_need_player (sp0 ⟨P, w, K, mg, T⟩ 1 F_need_player) :=
  ok0 Fu c_need_player (d_need_player B h_is_player) rfl (fun _ _ => rfl)
abbrev s_figure : Stmt := topS 24
abbrev N_figure : List Str := ["number", "at"]
abbrev p_figure : List Str := ["number", "at"]
theorem c_figure : FnScope N_figure p_figure (defScope s_figure) := ⟨rfl, rfl, rfl, by decide +kernel, rfl, by decide +kernel, by decide +kernel⟩
def m_figure : MS :=
  (retM (op2M eqG (op2M modG (op2M fdivG (varM 0) (op2M ixG (conM K_FIGURES) (varM 1))) (conM (.int 2))) (conM (.int 1))))
def F_figure : List D → R := run0 2 m_figure
theorem d_figure {f : Addr} {k : Nat} (B : Bn P w K mg T) : Der P w K mg base T N_figure "figure" s_figure f k m_figure := fun cdv A outer s H E hr hu tk po =>
  have nd : N_figure.Nodup := c_figure.nd; have hu4 := Nat.lt_of_succ_lt hu
  (s_one (s_ret (e_cmp (o_eq hu4) (e_op o_mod (e_op o_fdiv (e_var 0) (e_ix hu (e_glob B.k_FIGURES) (e_var 1))) e_int) e_int)))
theorem ok_figure {f : Addr} {fd : FuncData} {k : Nat} (B : Bn P w K mg T) (Fu : Fun K "figure" "figure" s_figure f fd) : FnOk P w K mg base (L2.CX P w) (k + 1) f fd p_figure (sp0 ⟨P, w, K, mg, T⟩ 2 F_figure) :=
  ok0 Fu c_figure (d_figure B) rfl (fun _ _ => rfl)
abbrev s_lot : Stmt := topS 25
abbrev N_lot : List Str := ["truths", "power", "truth"]
abbrev p_lot : List Str := ["truths"]
theorem c_lot : FnScope N_lot p_lot (defScope s_lot) := ⟨rfl, rfl, rfl, by decide +kernel, rfl, by decide +kernel, by decide +kernel⟩
def m_lot : MS :=
  (retM (biM sumG [(lcM (zpBI (conM K_POWERS) (varM 0)) (.many [1, 2]) (tstM (varM 2)) (varM 1) [1, 2])]))
def F_lot : List D → R := run0 3 m_lot
theorem d_lot {f : Addr} {k : Nat} (B : Bn P w K mg T) : Der P w K mg base T N_lot "lot" s_lot f k m_lot := fun cdv A outer s H E hr hu tk po =>
  have nd : N_lot.Nodup := c_lot.nd; have hu4 := Nat.lt_of_succ_lt hu
  (s_one (s_ret (e_bi (c_sum rfl) B.sum blt_sum (a_cons (e_lc (.many [1, 2]) [("power", 1), ("truth", 2)] rfl nd (i_zip2 B.zip (a_cons (e_glob B.k_POWERS) (a_cons (e_var 0) a_nil))) (blkOk_by (N := N_lot) (sc := defScope s_lot) (by decide +kernel)) (fun _ _ _ _ _ => (pg_tup rfl (gns_cons (pg_name (i := 1) nd rfl (Or.inl rfl)) (gns_cons (pg_name (i := 2) nd rfl (Or.inl rfl)) gns_nil)))) (fun _ _ _ _ _ tk => (ts_one (t_val (e_var 2)))) (fun _ _ _ _ _ tk => (e_var 1)) (by decide)) a_nil))))
theorem ok_lot {f : Addr} {fd : FuncData} {k : Nat} (B : Bn P w K mg T) (Fu : Fun K "lot" "lot" s_lot f fd) : FnOk P w K mg base (L2.CX P w) (k + 1) f fd p_lot (sp0 ⟨P, w, K, mg, T⟩ 1 F_lot) :=
  ok0 Fu c_lot (d_lot B) rfl (fun _ _ => rfl)
abbrev s_truths_of : Stmt := topS 26
abbrev N_truths_of : List Str := ["number", "power"]
abbrev p_truths_of : List Str := ["number"]
theorem c_truths_of : FnScope N_truths_of p_truths_of (defScope s_truths_of) := ⟨rfl, rfl, rfl, by decide +kernel, rfl, by decide +kernel, by decide +kernel⟩
def m_truths_of : MS :=
  (retM (biM tupleG [(lcM (seqI (conM K_POWERS)) (.one 1) yesM (op2M eqG (op2M modG (op2M fdivG (varM 0) (varM 1)) (conM (.int 2))) (conM (.int 1))) [1])]))
def F_truths_of : List D → R := run0 2 m_truths_of
theorem d_truths_of {f : Addr} {k : Nat} (B : Bn P w K mg T) : Der P w K mg base T N_truths_of "truths_of" s_truths_of f k m_truths_of := fun cdv A outer s H E hr hu tk po =>
  have nd : N_truths_of.Nodup := c_truths_of.nd; have hu4 := Nat.lt_of_succ_lt hu
  (s_one (s_ret (e_biT c_tuple B.tuple blt_tuple (a_cons (e_lc (.one 1) [("power", 1)] rfl nd (i_seq (e_glob B.k_POWERS)) (blkOk_by (N := N_truths_of) (sc := defScope s_truths_of) (by decide +kernel)) (fun _ _ _ _ _ => (pg_name (i := 1) nd rfl (Or.inl rfl))) (fun _ _ _ _ _ tk => ts_nil) (fun _ _ _ _ _ tk => (e_cmp (o_eq hu4) (e_op o_mod (e_op o_fdiv (e_var 0) (e_var 1)) e_int) e_int)) (by decide)) a_nil))))
theorem ok_truths_of {f : Addr} {fd : FuncData} {k : Nat} (B : Bn P w K mg T) (Fu : Fun K "truths_of" "truths_of" s_truths_of f fd) : FnOk P w K mg base (L2.CX P w) (k + 1) f fd p_truths_of (sp0 ⟨P, w, K, mg, T⟩ 1 F_truths_of) :=
  ok0 Fu c_truths_of (d_truths_of B) rfl (fun _ _ => rfl)
abbrev s_rises : Stmt := topS 27
abbrev N_rises : List Str := ["number", "some", "one", "power"]
abbrev p_rises : List Str := ["number"]
theorem c_rises : FnScope N_rises p_rises (defScope s_rises) := ⟨rfl, rfl, rfl, by decide +kernel, rfl, by decide +kernel, by decide +kernel⟩
def m_rises : MS :=
  (seqM (asgM (lcM (seqI (conM K_LOTS)) (.one 2) (tstM (callM F_figure [(varM 0), (varM 2)])) (varM 2) [2]) (namG 1))
    (retM (biM allB [(lc2M (seqI (varM 1)) (.one 2) yesM E_POWERS (.one 3) (tstM (op2M eqG (op2M modG (op2M fdivG (varM 2) (varM 3)) (conM (.int 2))) (conM (.int 0)))) (callM F_figure [(varM 0), (op2M addG (varM 2) (varM 3))]) [2, 3] [3])])))
def F_rises : List D → R := run0 4 m_rises
theorem d_rises {f : Addr} {k : Nat} (B : Bn P w K mg T) (h_figure : Kn ⟨P, w, K, mg, T⟩ base k "figure" (sp0 ⟨P, w, K, mg, T⟩ 2 F_figure)) : Der P w K mg base T N_rises "rises" s_rises f k m_rises := fun cdv A outer s H E hr hu tk po =>
  have nd : N_rises.Nodup := c_rises.nd; have hu4 := Nat.lt_of_succ_lt hu
  (s_cons (s_lc 1 (.one 2) [("one", 2)] rfl nd (i_seq (e_glob B.k_LOTS)) (blkOk_by (N := N_rises) (sc := defScope s_rises) (by decide +kernel)) (fun _ _ _ _ _ => (pg_name (i := 2) nd rfl (Or.inl rfl))) (fun _ _ _ _ _ tk => (ts_one (t_val (e_call h_figure hr tk rfl (a_cons (e_var 0) (a_cons (e_var 2) a_nil)))))) (fun _ _ _ _ _ tk => (e_var 2)) (by decide) (sw_true rfl rfl rfl (by decide +kernel)))
    (s_one (s_ret (e_bi (c_all rfl) B.all blt_all (a_cons (e_lc2 (.one 2) (.one 3) [("one", 2), ("power", 3)] [3] B.k_POWERS rfl nd (i_seq (e_var 1)) (blkOk_by (N := N_rises) (sc := defScope s_rises) (by decide +kernel)) (fun _ _ _ _ _ => (pg_name (i := 2) nd rfl (Or.inl rfl))) (fun _ _ _ _ _ tk => ts_nil) (fun _ _ _ _ _ => (pg_name (i := 3) nd rfl (Or.inl rfl))) (fun _ _ _ _ _ tk => (ts_one (t_cmp (o_eq hu4) (e_op o_mod (e_op o_fdiv (e_var 2) (e_var 3)) e_int) e_int))) (fun _ _ _ _ _ tk => (e_call h_figure hr tk rfl (a_cons (e_var 0) (a_cons (e_op o_add (e_var 2) (e_var 3)) a_nil)))) (by decide) (by decide) (by decide)) a_nil)))))
theorem ok_rises {f : Addr} {fd : FuncData} {k : Nat} (B : Bn P w K mg T) (h_figure : Kn ⟨P, w, K, mg, T⟩ base k "figure" (sp0 ⟨P, w, K, mg, T⟩ 2 F_figure)) (Fu : Fun K "rises" "rises" s_rises f fd) : FnOk P w K mg base (L2.CX P w) (k + 1) f fd p_rises (sp0 ⟨P, w, K, mg, T⟩ 1 F_rises) :=
  ok0 Fu c_rises (d_rises B h_figure) rfl (fun _ _ => rfl)
abbrev s_is_sign_of : Stmt := topS 28
abbrev N_is_sign_of : List Str := ["value", "one"]
abbrev p_is_sign_of : List Str := ["value"]
theorem c_is_sign_of : FnScope N_is_sign_of p_is_sign_of (defScope s_is_sign_of) := ⟨rfl, rfl, rfl, by decide +kernel, rfl, by decide +kernel, by decide +kernel⟩
def m_is_sign_of : MS :=
  (seqM (ifM (orT (notT (tstM (isM .tuple (varM 0)))) (tstM (op2M neG (biM lenG [(varM 0)]) (conM (.int 4))))) (retM (conM (.bl false))) nxtM)
    (retM (biM allB [(lcM (seqI (varM 0)) (.one 1) yesM (andM (callM F_is_number [(varM 1), (conM (.int 0)), (conM (.int 65535))]) (callM F_rises [(varM 1)])) [1])])))
def F_is_sign_of : List D → R := run0 2 m_is_sign_of
theorem d_is_sign_of {f : Addr} {k : Nat} (B : Bn P w K mg T) (h_is_number : Kn ⟨P, w, K, mg, T⟩ base k "is_number" (sp0 ⟨P, w, K, mg, T⟩ 3 F_is_number)) (h_rises : Kn ⟨P, w, K, mg, T⟩ base k "rises" (sp0 ⟨P, w, K, mg, T⟩ 1 F_rises)) : Der P w K mg base T N_is_sign_of "is_sign_of" s_is_sign_of f k m_is_sign_of := fun cdv A outer s H E hr hu tk po =>
  have nd : N_is_sign_of.Nodup := c_is_sign_of.nd; have hu4 := Nat.lt_of_succ_lt hu
  (s_cons (s_if (PW.pt (w_or (t_not (t_val (e_isi .tuple B.isinstance B.tuple blt_tuple (e_var 0)))) (w_or1 (t_cmp (o_ne hu4) (e_bi c_len B.len blt_len (a_cons (e_var 0) a_nil)) e_int)))) (s_one (s_ret e_bl)) s_nil)
    (s_one (s_ret (e_bi (c_all rfl) B.all blt_all (a_cons (e_lc (.one 1) [("one", 1)] rfl nd (i_seq (e_var 0)) (blkOk_by (N := N_is_sign_of) (sc := defScope s_is_sign_of) (by decide +kernel)) (fun _ _ _ _ _ => (pg_name (i := 1) nd rfl (Or.inl rfl))) (fun _ _ _ _ _ tk => ts_nil) (fun _ _ _ _ _ tk => (e_and (e_call h_is_number hr tk rfl (a_cons (e_var 1) (a_cons e_int (a_cons e_int a_nil)))) (e_one (e_call h_rises hr tk rfl (a_cons (e_var 1) a_nil))))) (by decide)) a_nil)))))
theorem ok_is_sign_of {f : Addr} {fd : FuncData} {k : Nat} (B : Bn P w K mg T) (h_is_number : Kn ⟨P, w, K, mg, T⟩ base k "is_number" (sp0 ⟨P, w, K, mg, T⟩ 3 F_is_number)) (h_rises : Kn ⟨P, w, K, mg, T⟩ base k "rises" (sp0 ⟨P, w, K, mg, T⟩ 1 F_rises)) (Fu : Fun K "is_sign_of" "is_sign_of" s_is_sign_of f fd) : FnOk P w K mg base (L2.CX P w) (k + 1) f fd p_is_sign_of (sp0 ⟨P, w, K, mg, T⟩ 1 F_is_sign_of) :=
  ok0 Fu c_is_sign_of (d_is_sign_of B h_is_number h_rises) rfl (fun _ _ => rfl)
abbrev s_empty_sign : Stmt := topS 29
abbrev N_empty_sign : List Str := ["at", "one"]
abbrev p_empty_sign : List Str := []
theorem c_empty_sign : FnScope N_empty_sign p_empty_sign (defScope s_empty_sign) := ⟨rfl, rfl, rfl, by decide +kernel, rfl, by decide +kernel, by decide +kernel⟩
def m_empty_sign : MS :=
  (retM (biM tupleG [(lcM (seqI (tupM [(conM (.int 2)), (conM (.int 3)), (conM (.int 0)), (conM (.int 1))])) (.one 0) yesM (biM sumG [(lcM (seqI (conM K_LOTS)) (.one 1) (tstM (op2M ixG (callM F_truths_of [(varM 1)]) (varM 0))) (op2M ixG (conM K_FIGURES) (varM 1)) [1])]) [0])]))
def F_empty_sign : List D → R := run0 2 m_empty_sign
theorem d_empty_sign {f : Addr} {k : Nat} (B : Bn P w K mg T) (h_truths_of : Kn ⟨P, w, K, mg, T⟩ base k "truths_of" (sp0 ⟨P, w, K, mg, T⟩ 1 F_truths_of)) : Der P w K mg base T N_empty_sign "empty_sign" s_empty_sign f k m_empty_sign := fun cdv A outer s H E hr hu tk po =>
  have nd : N_empty_sign.Nodup := c_empty_sign.nd; have hu4 := Nat.lt_of_succ_lt hu
  (s_one (s_ret (e_biT c_tuple B.tuple blt_tuple (a_cons (e_lc (.one 0) [("at", 0)] rfl nd (i_seq (e_tup (a_cons e_int (a_cons e_int (a_cons e_int (a_cons e_int a_nil)))))) (blkOk_by (N := N_empty_sign) (sc := defScope s_empty_sign) (by decide +kernel)) (fun _ _ _ _ _ => (pg_name (i := 0) nd rfl (Or.inr rfl))) (fun _ _ _ _ _ tk => ts_nil) (fun _ _ _ _ _ tk => (e_bi (c_sum rfl) B.sum blt_sum (a_cons (e_lc (.one 1) [("one", 1)] rfl nd (i_seq (e_glob B.k_LOTS)) (blkOk_by rfl) (fun _ _ _ _ _ => (pg_name (i := 1) nd rfl (Or.inl rfl))) (fun _ _ _ _ _ tk => (ts_one (t_val (e_ix hu (e_call h_truths_of hr tk rfl (a_cons (e_var 1) a_nil)) (e_var 0))))) (fun _ _ _ _ _ tk => (e_ix hu (e_glob B.k_FIGURES) (e_var 1))) (by decide)) a_nil))) (by decide)) a_nil))))
theorem ok_empty_sign {f : Addr} {fd : FuncData} {k : Nat} (B : Bn P w K mg T) (h_truths_of : Kn ⟨P, w, K, mg, T⟩ base k "truths_of" (sp0 ⟨P, w, K, mg, T⟩ 1 F_truths_of)) (Fu : Fun K "empty_sign" "empty_sign" s_empty_sign f fd) : FnOk P w K mg base (L2.CX P w) (k + 1) f fd p_empty_sign (sp0 ⟨P, w, K, mg, T⟩ 0 F_empty_sign) :=
  ok0 Fu c_empty_sign (d_empty_sign B h_truths_of) rfl (fun _ _ => rfl)
abbrev s_forced : Stmt := topS 30
abbrev N_forced : List Str := ["ways", "who", "mover", "good", "some", "way"]
abbrev p_forced : List Str := ["ways", "who", "mover", "good"]
theorem c_forced : FnScope N_forced p_forced (defScope s_forced) := ⟨rfl, rfl, rfl, by decide +kernel, rfl, by decide +kernel, by decide +kernel⟩
def m_forced : MS :=
  (seqM (asgM (lcM (seqI (varM 0)) (.one 5) yesM (op2M ixG (varM 3) (varM 5)) [5]) (namG 4))
    (retM (iteM (tstM (op2M eqG (varM 2) (varM 1))) (op2M inG (conM (.bl true)) (varM 4)) (op2M notInG (conM (.bl false)) (varM 4)))))
def F_forced : List D → R := run0 6 m_forced
theorem d_forced {f : Addr} {k : Nat} (B : Bn P w K mg T) : Der P w K mg base T N_forced "forced" s_forced f k m_forced := fun cdv A outer s H E hr hu tk po =>
  have nd : N_forced.Nodup := c_forced.nd; have hu4 := Nat.lt_of_succ_lt hu
  (s_cons (s_lc 4 (.one 5) [("way", 5)] rfl nd (i_seq (e_var 0)) (blkOk_by (N := N_forced) (sc := defScope s_forced) (by decide +kernel)) (fun _ _ _ _ _ => (pg_name (i := 5) nd rfl (Or.inl rfl))) (fun _ _ _ _ _ tk => ts_nil) (fun _ _ _ _ _ tk => (e_ix hu (e_var 3) (e_var 5))) (by decide) (sw_true rfl rfl rfl (by decide +kernel)))
    (s_one (s_ret (e_if (t_cmp (o_eq hu4) (e_var 2) (e_var 1)) (e_cmp (o_in hu) e_bl (e_var 4)) (e_cmp (o_notIn hu) e_bl (e_var 4))))))
theorem ok_forced {f : Addr} {fd : FuncData} {k : Nat} (B : Bn P w K mg T) (Fu : Fun K "forced" "forced" s_forced f fd) : FnOk P w K mg base (L2.CX P w) (k + 1) f fd p_forced (sp0 ⟨P, w, K, mg, T⟩ 4 F_forced) :=
  ok0 Fu c_forced (d_forced B) rfl (fun _ _ => rfl)
abbrev s_cell_values : Stmt := topS 31
abbrev N_cell_values : List Str := ["kind", "who", "doors", "now", "turn", "later", "mover", "other", "good"]
abbrev p_cell_values : List Str := ["kind", "who", "doors"]
theorem c_cell_values : FnScope N_cell_values p_cell_values (defScope s_cell_values) := ⟨rfl, rfl, rfl, by decide +kernel, rfl, by decide +kernel, by decide +kernel⟩
def m_cell_values : MS :=
  (seqM (asgM (dicM ["first", "second"] [(conM (.bl false)), (conM (.bl false))]) (namG 3))
    (seqM (forM (rng1I (conM (.int 2))) (namG 4)
    (scpM [5] (seqM (asgM (ndiM false) (namG 5))
    (seqM (forM (seqI (conM K_PLAYERS)) (namG 6)
    (seqM (asgM (callM F_other_player [(varM 6)]) (namG 7))
    (seqM (asgM (dicM ["left", "right", "stay"] [(op2M ixG (varM 2) (tupM [(conM (.str "left")), (varM 7)])), (op2M ixG (varM 2) (tupM [(conM (.str "right")), (varM 7)])), (op2M ixG (varM 3) (varM 7))]) (namG 8))
    (setM (varM 5) (varM 6) (callM F_forced [(op2M ixG (varM 0) (idxM Y_PLAYERS (varM 6))), (varM 1), (varM 6), (varM 8)])))))
    (asgM (varM 5) (namG 3))))))
    (retM (varM 3))))
def F_cell_values : List D → R := run0 9 m_cell_values
theorem d_cell_values {f : Addr} {k : Nat} (B : Bn P w K mg T) (h_other_player : Kn ⟨P, w, K, mg, T⟩ base k "other_player" (sp0 ⟨P, w, K, mg, T⟩ 1 F_other_player)) (h_forced : Kn ⟨P, w, K, mg, T⟩ base k "forced" (sp0 ⟨P, w, K, mg, T⟩ 4 F_forced)) : Der P w K mg base T N_cell_values "cell_values" s_cell_values f k m_cell_values := fun cdv A outer s H E hr hu tk po =>
  have nd : N_cell_values.Nodup := c_cell_values.nd; have hu4 := Nat.lt_of_succ_lt hu
  (s_cons (s_set 3 nd (e_dic (q_cons e_bl (q_cons e_bl q_nil))))
    (s_cons (s_for po rfl (i_rng1 B.range (a_cons e_int a_nil)) (g_nam 4 nd)
    (s_scp [5] (s_cons (s_set 5 nd e_ndK)
    (s_cons (s_for po rfl (i_seq (e_glob B.k_PLAYERS)) (g_nam 6 nd)
    (s_cons (s_set 7 nd (e_call h_other_player hr tk rfl (a_cons (e_var 6) a_nil)))
    (s_cons (s_set 8 nd (e_dic (q_cons (e_ix hu (e_var 2) (e_tup (a_cons e_str (a_cons (e_var 7) a_nil)))) (q_cons (e_ix hu (e_var 2) (e_tup (a_cons e_str (a_cons (e_var 7) a_nil)))) (q_cons (e_ix hu (e_var 3) (e_var 7)) q_nil)))))
    (s_one (s_setI hu (e_call h_forced hr tk rfl (a_cons (e_ix hu (e_var 0) (e_idx B.t_PLAYERS (e_var 6))) (a_cons (e_var 1) (a_cons (e_var 6) (a_cons (e_var 8) a_nil))))) (e_var 5) (e_var 6))))))
    (s_one (s_set 3 nd (e_var 5)))))))
    (s_one (s_ret (e_var 3)))))
theorem ok_cell_values {f : Addr} {fd : FuncData} {k : Nat} (B : Bn P w K mg T) (h_other_player : Kn ⟨P, w, K, mg, T⟩ base k "other_player" (sp0 ⟨P, w, K, mg, T⟩ 1 F_other_player)) (h_forced : Kn ⟨P, w, K, mg, T⟩ base k "forced" (sp0 ⟨P, w, K, mg, T⟩ 4 F_forced)) (Fu : Fun K "cell_values" "cell_values" s_cell_values f fd) : FnOk P w K mg base (L2.CX P w) (k + 1) f fd p_cell_values (sp0 ⟨P, w, K, mg, T⟩ 3 F_cell_values) :=
  ok0 Fu c_cell_values (d_cell_values B h_other_player h_forced) rfl (fun _ _ => rfl)
abbrev s_joined_of : Stmt := topS 33
abbrev N_joined_of : List Str := ["one", "other", "numbers", "number", "outs", "into", "back", "old", "whole", "truth", "at"]
abbrev p_joined_of : List Str := ["one", "other"]
theorem c_joined_of : FnScope N_joined_of p_joined_of (defScope s_joined_of) := ⟨rfl, rfl, rfl, by decide +kernel, rfl, by decide +kernel, by decide +kernel⟩
def m_joined_of : MS :=
  (seqM (asgM (lstM [(conM (.int 0)), (conM (.int 0)), (conM (.int 0)), (conM (.int 0))]) (namG 2))
    (seqM (forM (seqI (conM K_LOTS)) (namG 3)
    (seqM (asgM (callM F_truths_of [(varM 3)]) (namG 4))
    (seqM (parsM [5, 6, 7] [(tupM [(conM (.bl false)), (conM (.bl false))]), (tupM [(conM (.bl false)), (conM (.bl false))]), (conM .non)])
    (seqM (whM (tstM (op2M neG (varM 7) (varM 6))) (seqM (asgM (varM 6) (namG 7))
    (seqM (asgM (biM tupleG [(lcM (seqI (tupM [(conM (.int 0)), (conM (.int 1))])) (.one 10) yesM (callM F_figure [(op2M ixG (varM 1) (varM 10)), (callM F_lot [(op2M addG (varM 6) (slM (varM 4) (someP (conM (.int 2))) noP))])]) [10])]) (namG 5))
    (asgM (biM tupleG [(lcM (seqI (tupM [(conM (.int 2)), (conM (.int 3))])) (.one 10) yesM (callM F_figure [(op2M ixG (varM 0) (varM 10)), (callM F_lot [(op2M addG (slM (varM 4) noP (someP (conM (.int 2)))) (varM 5))])]) [10])]) (namG 6)))))
    (seqM (asgM (lstM [(callM F_figure [(op2M ixG (varM 0) (conM (.int 0))), (callM F_lot [(op2M addG (slM (varM 4) noP (someP (conM (.int 2)))) (varM 5))])]), (callM F_figure [(op2M ixG (varM 0) (conM (.int 1))), (callM F_lot [(op2M addG (slM (varM 4) noP (someP (conM (.int 2)))) (varM 5))])]), (callM F_figure [(op2M ixG (varM 1) (conM (.int 2))), (callM F_lot [(op2M addG (varM 6) (slM (varM 4) (someP (conM (.int 2))) noP))])]), (callM F_figure [(op2M ixG (varM 1) (conM (.int 3))), (callM F_lot [(op2M addG (varM 6) (slM (varM 4) (someP (conM (.int 2))) noP))])])]) (namG 8))
    (asgM (lcM (zpBI (varM 2) (varM 8)) (.many [7, 9]) yesM (op2M addG (varM 7) (iteM (tstM (varM 9)) (op2M ixG (conM K_FIGURES) (varM 3)) (conM (.int 0)))) [7, 9]) (namG 2)))))))
    (retM (biM tupleG [(varM 2)]))))
def F_joined_of : List D → R := run0 11 m_joined_of
theorem d_joined_of {f : Addr} {k : Nat} (B : Bn P w K mg T) (h_truths_of : Kn ⟨P, w, K, mg, T⟩ base k "truths_of" (sp0 ⟨P, w, K, mg, T⟩ 1 F_truths_of)) (h_figure : Kn ⟨P, w, K, mg, T⟩ base k "figure" (sp0 ⟨P, w, K, mg, T⟩ 2 F_figure)) (h_lot : Kn ⟨P, w, K, mg, T⟩ base k "lot" (sp0 ⟨P, w, K, mg, T⟩ 1 F_lot)) : Der P w K mg base T N_joined_of "joined_of" s_joined_of f k m_joined_of := fun cdv A outer s H E hr hu tk po =>
  have nd : N_joined_of.Nodup := c_joined_of.nd; have hu4 := Nat.lt_of_succ_lt hu
  (s_cons (s_set 2 nd (e_lst (a_cons e_int (a_cons e_int (a_cons e_int (a_cons e_int a_nil))))))
    (s_cons (s_for po rfl (i_seq (e_glob B.k_LOTS)) (g_nam 3 nd)
    (s_cons (s_set 4 nd (e_call h_truths_of hr tk rfl (a_cons (e_var 3) a_nil)))
    (s_cons (s_par [5, 6, 7] rfl (a_cons (e_tup (a_cons e_bl (a_cons e_bl a_nil))) (a_cons (e_tup (a_cons e_bl (a_cons e_bl a_nil))) (a_cons e_non a_nil))) (gns_cons (pg_name (i := 5) nd rfl (Or.inr rfl)) (gns_cons (pg_name (i := 6) nd rfl (Or.inr rfl)) (gns_cons (pg_name (i := 7) nd rfl (Or.inl rfl)) gns_nil))))
    (s_cons (s_while po (t_cmp (o_ne hu4) (e_var 7) (e_var 6)) (s_cons (s_set 7 nd (e_var 6))
    (s_cons (s_set 5 nd (e_biT c_tuple B.tuple blt_tuple (a_cons (e_lc (.one 10) [("at", 10)] rfl nd (i_seq (e_tup (a_cons e_int (a_cons e_int a_nil)))) (blkOk_by (N := N_joined_of) (sc := defScope s_joined_of) (by decide +kernel)) (fun _ _ _ _ _ => (pg_name (i := 10) nd rfl (Or.inl rfl))) (fun _ _ _ _ _ tk => ts_nil) (fun _ _ _ _ _ tk => (e_call h_figure hr tk rfl (a_cons (e_ix hu (e_var 1) (e_var 10)) (a_cons (e_call h_lot hr tk rfl (a_cons (e_op o_add (e_var 6) (e_sl (e_var 4) (p_some e_int) p_none)) a_nil)) a_nil)))) (by decide)) a_nil)))
    (s_one (s_set 6 nd (e_biT c_tuple B.tuple blt_tuple (a_cons (e_lc (.one 10) [("at", 10)] rfl nd (i_seq (e_tup (a_cons e_int (a_cons e_int a_nil)))) (blkOk_by (N := N_joined_of) (sc := defScope s_joined_of) (by decide +kernel)) (fun _ _ _ _ _ => (pg_name (i := 10) nd rfl (Or.inl rfl))) (fun _ _ _ _ _ tk => ts_nil) (fun _ _ _ _ _ tk => (e_call h_figure hr tk rfl (a_cons (e_ix hu (e_var 0) (e_var 10)) (a_cons (e_call h_lot hr tk rfl (a_cons (e_op o_add (e_sl (e_var 4) p_none (p_some e_int)) (e_var 5)) a_nil)) a_nil)))) (by decide)) a_nil)))))))
    (s_cons (s_set 8 nd (e_lst (a_cons (e_call h_figure hr tk rfl (a_cons (e_ix hu (e_var 0) e_int) (a_cons (e_call h_lot hr tk rfl (a_cons (e_op o_add (e_sl (e_var 4) p_none (p_some e_int)) (e_var 5)) a_nil)) a_nil))) (a_cons (e_call h_figure hr tk rfl (a_cons (e_ix hu (e_var 0) e_int) (a_cons (e_call h_lot hr tk rfl (a_cons (e_op o_add (e_sl (e_var 4) p_none (p_some e_int)) (e_var 5)) a_nil)) a_nil))) (a_cons (e_call h_figure hr tk rfl (a_cons (e_ix hu (e_var 1) e_int) (a_cons (e_call h_lot hr tk rfl (a_cons (e_op o_add (e_var 6) (e_sl (e_var 4) (p_some e_int) p_none)) a_nil)) a_nil))) (a_cons (e_call h_figure hr tk rfl (a_cons (e_ix hu (e_var 1) e_int) (a_cons (e_call h_lot hr tk rfl (a_cons (e_op o_add (e_var 6) (e_sl (e_var 4) (p_some e_int) p_none)) a_nil)) a_nil))) a_nil))))))
    (s_one (s_lc 2 (.many [7, 9]) [("old", 7), ("truth", 9)] rfl nd (i_zip2 B.zip (a_cons (e_var 2) (a_cons (e_var 8) a_nil))) (blkOk_by (N := N_joined_of) (sc := defScope s_joined_of) (by decide +kernel)) (fun _ _ _ _ _ => (pg_tup rfl (gns_cons (pg_name (i := 7) nd rfl (Or.inl rfl)) (gns_cons (pg_name (i := 9) nd rfl (Or.inl rfl)) gns_nil)))) (fun _ _ _ _ _ tk => ts_nil) (fun _ _ _ _ _ tk => (e_op o_add (e_var 7) (e_if (t_val (e_var 9)) (e_ix hu (e_glob B.k_FIGURES) (e_var 3)) e_int))) (by decide) (sw_true rfl rfl rfl (by decide +kernel)))))))))
    (s_one (s_ret (e_biT c_tuple B.tuple blt_tuple (a_cons (e_var 2) a_nil))))))
theorem ok_joined_of {f : Addr} {fd : FuncData} {k : Nat} (B : Bn P w K mg T) (h_truths_of : Kn ⟨P, w, K, mg, T⟩ base k "truths_of" (sp0 ⟨P, w, K, mg, T⟩ 1 F_truths_of)) (h_figure : Kn ⟨P, w, K, mg, T⟩ base k "figure" (sp0 ⟨P, w, K, mg, T⟩ 2 F_figure)) (h_lot : Kn ⟨P, w, K, mg, T⟩ base k "lot" (sp0 ⟨P, w, K, mg, T⟩ 1 F_lot)) (Fu : Fun K "joined_of" "joined_of" s_joined_of f fd) : FnOk P w K mg base (L2.CX P w) (k + 1) f fd p_joined_of (sp0 ⟨P, w, K, mg, T⟩ 2 F_joined_of) :=
  ok0 Fu c_joined_of (d_joined_of B h_truths_of h_figure h_lot) rfl (fun _ _ => rfl)
abbrev s_sign_of : Stmt := topS 34
abbrev N_sign_of : List Str := ["some", "who", "found", "kind"]
abbrev p_sign_of : List Str := ["some", "who"]
theorem c_sign_of : FnScope N_sign_of p_sign_of (defScope s_sign_of) := ⟨rfl, rfl, rfl, by decide +kernel, rfl, by decide +kernel, by decide +kernel⟩
def m_sign_of : MS :=
  (seqM (asgM (callM0 F_empty_sign) (namG 2))
    (seqM (forM (seqI (varM 0)) (namG 3)
    (asgM (callM F_joined_of [(varM 2), unE]) (namG 2)))
    (retM (varM 2))))
def F_sign_of : List D → R := run0 4 m_sign_of
theorem d_sign_of {f : Addr} {k : Nat} (B : Bn P w K mg T) (h_empty_sign : Kn ⟨P, w, K, mg, T⟩ base k "empty_sign" (sp0 ⟨P, w, K, mg, T⟩ 0 F_empty_sign)) (h_joined_of : Kn ⟨P, w, K, mg, T⟩ base k "joined_of" (sp0 ⟨P, w, K, mg, T⟩ 2 F_joined_of)) : Der P w K mg base T N_sign_of "sign_of" s_sign_of f k m_sign_of := fun cdv A outer s H E hr hu tk po =>
  have nd : N_sign_of.Nodup := c_sign_of.nd; have hu4 := Nat.lt_of_succ_lt hu
  (s_cons (s_set 2 nd (e_call0 h_empty_sign hr tk))
    (s_cons (s_for po rfl (i_seq (e_var 0)) (g_nam 3 nd)
    (s_one (s_set 2 nd (e_call h_joined_of hr tk rfl (a_cons (e_var 2) (a_cons e_un0 a_nil))))))
    (s_one (s_ret (e_var 2)))))
theorem ok_sign_of {f : Addr} {fd : FuncData} {k : Nat} (B : Bn P w K mg T) (h_empty_sign : Kn ⟨P, w, K, mg, T⟩ base k "empty_sign" (sp0 ⟨P, w, K, mg, T⟩ 0 F_empty_sign)) (h_joined_of : Kn ⟨P, w, K, mg, T⟩ base k "joined_of" (sp0 ⟨P, w, K, mg, T⟩ 2 F_joined_of)) (Fu : Fun K "sign_of" "sign_of" s_sign_of f fd) : FnOk P w K mg base (L2.CX P w) (k + 1) f fd p_sign_of (sp0 ⟨P, w, K, mg, T⟩ 2 F_sign_of) :=
  ok0 Fu c_sign_of (d_sign_of B h_empty_sign h_joined_of) rfl (fun _ _ => rfl)
abbrev s_kinds_at : Stmt := topS 35
abbrev N_kinds_at : List Str := ["kinds", "stretch", "one"]
abbrev p_kinds_at : List Str := ["kinds", "stretch"]
theorem c_kinds_at : FnScope N_kinds_at p_kinds_at (defScope s_kinds_at) := ⟨rfl, rfl, rfl, by decide +kernel, rfl, by decide +kernel, by decide +kernel⟩
def m_kinds_at : MS :=
  (retM (lcM (seqI (varM 1)) (.one 2) yesM (op2M ixG (varM 0) (varM 2)) [2]))
def F_kinds_at : List D → R := run0 3 m_kinds_at
theorem d_kinds_at {f : Addr} {k : Nat} (B : Bn P w K mg T) : Der P w K mg base T N_kinds_at "kinds_at" s_kinds_at f k m_kinds_at := fun cdv A outer s H E hr hu tk po =>
  have nd : N_kinds_at.Nodup := c_kinds_at.nd; have hu4 := Nat.lt_of_succ_lt hu
  (s_one (s_ret (e_lc (.one 2) [("one", 2)] rfl nd (i_seq (e_var 1)) (blkOk_by (N := N_kinds_at) (sc := defScope s_kinds_at) (by decide +kernel)) (fun _ _ _ _ _ => (pg_name (i := 2) nd rfl (Or.inl rfl))) (fun _ _ _ _ _ tk => ts_nil) (fun _ _ _ _ _ tk => (e_ix hu (e_var 0) (e_var 2))) (by decide))))
theorem ok_kinds_at {f : Addr} {fd : FuncData} {k : Nat} (B : Bn P w K mg T) (Fu : Fun K "kinds_at" "kinds_at" s_kinds_at f fd) : FnOk P w K mg base (L2.CX P w) (k + 1) f fd p_kinds_at (sp0 ⟨P, w, K, mg, T⟩ 2 F_kinds_at) :=
  ok0 Fu c_kinds_at (d_kinds_at B) rfl (fun _ _ => rfl)
abbrev s_sign : Stmt := topS 36
abbrev N_sign : List Str := ["kinds", "stretch", "who"]
abbrev p_sign : List Str := ["kinds", "stretch", "who"]
theorem c_sign : FnScope N_sign p_sign (defScope s_sign) := ⟨rfl, rfl, rfl, by decide +kernel, rfl, by decide +kernel, by decide +kernel⟩
def m_sign : MS :=
  (seqM (drpM (callM F_need_kinds [(varM 0)]))
    (seqM (drpM (callM F_need_stretch [(varM 0), (varM 1), (conM (.int 60))]))
    (seqM (drpM (callM F_need_player [(varM 2)]))
    (retM (callM F_sign_of [(callM F_kinds_at [(varM 0), (varM 1)]), (varM 2)])))))
def F_sign : List D → R := run0 3 m_sign
theorem d_sign {f : Addr} {k : Nat} (B : Bn P w K mg T) (h_need_kinds : Kn ⟨P, w, K, mg, T⟩ base k "need_kinds" (sp0 ⟨P, w, K, mg, T⟩ 1 F_need_kinds)) (h_need_stretch : Kn ⟨P, w, K, mg, T⟩ base k "need_stretch" (sp0 ⟨P, w, K, mg, T⟩ 3 F_need_stretch)) (h_need_player : Kn ⟨P, w, K, mg, T⟩ base k "need_player" (sp0 ⟨P, w, K, mg, T⟩ 1 F_need_player)) (h_sign_of : Kn ⟨P, w, K, mg, T⟩ base k "sign_of" (sp0 ⟨P, w, K, mg, T⟩ 2 F_sign_of)) (h_kinds_at : Kn ⟨P, w, K, mg, T⟩ base k "kinds_at" (sp0 ⟨P, w, K, mg, T⟩ 2 F_kinds_at)) : Der P w K mg base T N_sign "sign" s_sign f k m_sign := fun cdv A outer s H E hr hu tk po =>
  have nd : N_sign.Nodup := c_sign.nd; have hu4 := Nat.lt_of_succ_lt hu
  (s_cons (s_expr (e_call h_need_kinds hr tk rfl (a_cons (e_var 0) a_nil)))
    (s_cons (s_expr (e_call h_need_stretch hr tk rfl (a_cons (e_var 0) (a_cons (e_var 1) (a_cons e_int a_nil)))))
    (s_cons (s_expr (e_call h_need_player hr tk rfl (a_cons (e_var 2) a_nil)))
    (s_one (s_ret (e_call h_sign_of hr tk rfl (a_cons (e_call h_kinds_at hr tk rfl (a_cons (e_var 0) (a_cons (e_var 1) a_nil))) (a_cons (e_var 2) a_nil))))))))
theorem ok_sign {f : Addr} {fd : FuncData} {k : Nat} (B : Bn P w K mg T) (h_need_kinds : Kn ⟨P, w, K, mg, T⟩ base k "need_kinds" (sp0 ⟨P, w, K, mg, T⟩ 1 F_need_kinds)) (h_need_stretch : Kn ⟨P, w, K, mg, T⟩ base k "need_stretch" (sp0 ⟨P, w, K, mg, T⟩ 3 F_need_stretch)) (h_need_player : Kn ⟨P, w, K, mg, T⟩ base k "need_player" (sp0 ⟨P, w, K, mg, T⟩ 1 F_need_player)) (h_sign_of : Kn ⟨P, w, K, mg, T⟩ base k "sign_of" (sp0 ⟨P, w, K, mg, T⟩ 2 F_sign_of)) (h_kinds_at : Kn ⟨P, w, K, mg, T⟩ base k "kinds_at" (sp0 ⟨P, w, K, mg, T⟩ 2 F_kinds_at)) (Fu : Fun K "sign" "sign" s_sign f fd) : FnOk P w K mg base (L2.CX P w) (k + 1) f fd p_sign (sp0 ⟨P, w, K, mg, T⟩ 3 F_sign) :=
  ok0 Fu c_sign (d_sign B h_need_kinds h_need_stretch h_need_player h_sign_of h_kinds_at) rfl (fun _ _ => rfl)
abbrev s_is_sign : Stmt := topS 37
abbrev N_is_sign : List Str := ["value"]
abbrev p_is_sign : List Str := ["value"]
theorem c_is_sign : FnScope N_is_sign p_is_sign (defScope s_is_sign) := ⟨rfl, rfl, rfl, by decide +kernel, rfl, by decide +kernel, by decide +kernel⟩
def m_is_sign : MS :=
  (retM (callM F_is_sign_of [(varM 0)]))
def F_is_sign : List D → R := run0 1 m_is_sign
theorem d_is_sign {f : Addr} {k : Nat} (B : Bn P w K mg T) (h_is_sign_of : Kn ⟨P, w, K, mg, T⟩ base k "is_sign_of" (sp0 ⟨P, w, K, mg, T⟩ 1 F_is_sign_of)) : Der P w K mg base T N_is_sign "is_sign" s_is_sign f k m_is_sign := fun cdv A outer s H E hr hu tk po =>
  have nd : N_is_sign.Nodup := c_is_sign.nd; have hu4 := Nat.lt_of_succ_lt hu
  (s_one (s_ret (e_call h_is_sign_of hr tk rfl (a_cons (e_var 0) a_nil))))
theorem ok_is_sign {f : Addr} {fd : FuncData} {k : Nat} (B : Bn P w K mg T) (h_is_sign_of : Kn ⟨P, w, K, mg, T⟩ base k "is_sign_of" (sp0 ⟨P, w, K, mg, T⟩ 1 F_is_sign_of)) (Fu : Fun K "is_sign" "is_sign" s_is_sign f fd) : FnOk P w K mg base (L2.CX P w) (k + 1) f fd p_is_sign (sp0 ⟨P, w, K, mg, T⟩ 1 F_is_sign) :=
  ok0 Fu c_is_sign (d_is_sign B h_is_sign_of) rfl (fun _ _ => rfl)
abbrev s_need_sign : Stmt := topS 38
abbrev N_need_sign : List Str := ["value"]
abbrev p_need_sign : List Str := ["value"]
theorem c_need_sign : FnScope N_need_sign p_need_sign (defScope s_need_sign) := ⟨rfl, rfl, rfl, by decide +kernel, rfl, by decide +kernel, by decide +kernel⟩
def m_need_sign : MS :=
  (ifM (notT (tstM (callM F_is_sign_of [(varM 0)]))) (raiM { cls := "InvalidSign" }) nxtM)
def F_need_sign : List D → R := run0 1 m_need_sign
theorem d_need_sign {f : Addr} {k : Nat} (B : Bn P w K mg T) (h_is_sign_of : Kn ⟨P, w, K, mg, T⟩ base k "is_sign_of" (sp0 ⟨P, w, K, mg, T⟩ 1 F_is_sign_of)) : Der P w K mg base T N_need_sign "need_sign" s_need_sign f k m_need_sign := fun cdv A outer s H E hr hu tk po =>
  have nd : N_need_sign.Nodup := c_need_sign.nd; have hu4 := Nat.lt_of_succ_lt hu
  (s_one (s_if (t_not (t_val (e_call h_is_sign_of hr tk rfl (a_cons (e_var 0) a_nil)))) (s_one (s_rai B.x_InvalidSign rfl tk)) s_nil))
theorem ok_need_sign {f : Addr} {fd : FuncData} {k : Nat} (B : Bn P w K mg T) (h_is_sign_of : Kn ⟨P, w, K, mg, T⟩ base k "is_sign_of" (sp0 ⟨P, w, K, mg, T⟩ 1 F_is_sign_of)) (Fu : Fun K "need_sign" "need_sign" s_need_sign f fd) : FnOk P w K mg base (L2.CX P w) (k + 1) f fd p_need_sign (sp0 ⟨P, w, K, mg, T⟩ 1 F_need_sign) :=
  ok0 Fu c_need_sign (d_need_sign B h_is_sign_of) rfl (fun _ _ => rfl)
abbrev s_join : Stmt := topS 39
abbrev N_join : List Str := ["one", "other"]
abbrev p_join : List Str := ["one", "other"]
theorem c_join : FnScope N_join p_join (defScope s_join) := ⟨rfl, rfl, rfl, by decide +kernel, rfl, by decide +kernel, by decide +kernel⟩
def m_join : MS :=
  (seqM (drpM (callM F_need_sign [(varM 0)]))
    (seqM (drpM (callM F_need_sign [(varM 1)]))
    (retM (callM F_joined_of [(varM 0), (varM 1)]))))
def F_join : List D → R := run0 2 m_join
theorem d_join {f : Addr} {k : Nat} (B : Bn P w K mg T) (h_need_sign : Kn ⟨P, w, K, mg, T⟩ base k "need_sign" (sp0 ⟨P, w, K, mg, T⟩ 1 F_need_sign)) (h_joined_of : Kn ⟨P, w, K, mg, T⟩ base k "joined_of" (sp0 ⟨P, w, K, mg, T⟩ 2 F_joined_of)) : Der P w K mg base T N_join "join" s_join f k m_join := fun cdv A outer s H E hr hu tk po =>
  have nd : N_join.Nodup := c_join.nd; have hu4 := Nat.lt_of_succ_lt hu
  (s_cons (s_expr (e_call h_need_sign hr tk rfl (a_cons (e_var 0) a_nil)))
    (s_cons (s_expr (e_call h_need_sign hr tk rfl (a_cons (e_var 1) a_nil)))
    (s_one (s_ret (e_call h_joined_of hr tk rfl (a_cons (e_var 0) (a_cons (e_var 1) a_nil)))))))
theorem ok_join {f : Addr} {fd : FuncData} {k : Nat} (B : Bn P w K mg T) (h_need_sign : Kn ⟨P, w, K, mg, T⟩ base k "need_sign" (sp0 ⟨P, w, K, mg, T⟩ 1 F_need_sign)) (h_joined_of : Kn ⟨P, w, K, mg, T⟩ base k "joined_of" (sp0 ⟨P, w, K, mg, T⟩ 2 F_joined_of)) (Fu : Fun K "join" "join" s_join f fd) : FnOk P w K mg base (L2.CX P w) (k + 1) f fd p_join (sp0 ⟨P, w, K, mg, T⟩ 2 F_join) :=
  ok0 Fu c_join (d_join B h_need_sign h_joined_of) rfl (fun _ _ => rfl)
abbrev s__law_sack : Stmt := topS 41
abbrev N__law_sack : List Str := ["cell", "salt", "great"]
abbrev p__law_sack : List Str := ["cell", "salt"]
theorem c__law_sack : FnScope N__law_sack p__law_sack (defScope s__law_sack) := ⟨rfl, rfl, rfl, by decide +kernel, rfl, by decide +kernel, by decide +kernel⟩
def m__law_sack : MS :=
  (seqM (asgM (iteM (tstM (op2M geG (varM 0) (op2M powG (conM (.int 10)) (conM (.int 18))))) (op2M addG (op2M fdivG (varM 0) (conM (.int 10))) (op2M mulG (conM (.int 41)) (varM 1))) (conM (.int 0))) (namG 2))
    (retM (nlsM [(varM 2), (op2M addG (op2M modG (biM intG [(op2M addG (op2M mulG (varM 0) (conM (.int 73))) (op2M mulG (conM (.int 1039)) (varM 1)))]) (conM (.int 2017504241))) (conM (.int 43)))])))
def F__law_sack : List D → RNw := runN 3 m__law_sack
theorem d__law_sack {f : Addr} {k : Nat} (B : Bn P w K mg T) : Der P w K mg base T N__law_sack "_law_sack" s__law_sack f k m__law_sack := fun cdv A outer s H E hr hu tk po =>
  have nd : N__law_sack.Nodup := c__law_sack.nd; have hu4 := Nat.lt_of_succ_lt hu
  (s_cons (s_set 2 nd (e_if (t_cmp o_ge (e_var 0) (e_op o_pow e_int e_int)) (e_op o_add (e_op o_fdiv (e_var 0) e_int) (e_op o_mul e_int (e_var 1))) e_int))
    (s_one (s_ret (e_nls (a_cons (e_var 2) (a_cons (e_op o_add (e_op o_mod (e_biT c_int B.int blt_int (a_cons (e_op o_add (e_op o_mul (e_var 0) e_int) (e_op o_mul e_int (e_var 1))) a_nil)) e_int) e_int) a_nil))))))
theorem ok__law_sack {f : Addr} {fd : FuncData} {k : Nat} (B : Bn P w K mg T) (Fu : Fun K "_law_sack" "_law_sack" s__law_sack f fd) : FnOk P w K mg base (L2.CX P w) (k + 1) f fd p__law_sack (spN ⟨P, w, K, mg, T⟩ 2 F__law_sack) :=
  okN Fu c__law_sack (d__law_sack B) rfl (fun _ _ => rfl)
abbrev s__law_grip : Stmt := topS 42
abbrev N__law_grip : List Str := ["sack", "many", "deep", "found"]
abbrev p__law_grip : List Str := ["sack", "many"]
theorem c__law_grip : FnScope N__law_grip p__law_grip (defScope s__law_grip) := ⟨rfl, rfl, rfl, by decide +kernel, rfl, by decide +kernel, by decide +kernel⟩
def m__law_grip : MS :=
  (seqM (ifM (tstM (op2M gtG (op2M ixG (varM 0) (conM (.int 0))) (conM (.int 0)))) (seqM (asgM (op2M modG (biM intG [(op2M ixG (varM 0) (conM (.int 0)))]) (varM 1)) (namG 3))
    (seqM (setM (varM 0) (conM (.int 0)) (op2M fdivG (op2M ixG (varM 0) (conM (.int 0))) (varM 1)))
    (retM (varM 3)))) nxtM)
    (seqM (setM (varM 0) (conM (.int 1)) (op2M modG (biM intG [(op2M addG (op2M mulG (op2M ixG (varM 0) (conM (.int 1))) (conM (.int 35023))) (conM (.int 9001)))]) (conM (.int 2147483549))))
    (seqM (asgM (op2M modG (biM intG [(op2M mulG (op2M ixG (varM 0) (conM (.int 1))) (op2M addG (op2M ixG (varM 0) (conM (.int 1))) (conM (.int 79))))]) (conM (.int 2147483587))) (namG 2))
    (retM (op2M modG (biM intG [(op2M fdivG (varM 2) (conM (.int 593)))]) (varM 1))))))
def F__law_grip : List D → Cell → R1 := run1 4 0 m__law_grip
theorem d__law_grip {f : Addr} {k : Nat} (B : Bn P w K mg T) : Der P w K mg base T N__law_grip "_law_grip" s__law_grip f k m__law_grip := fun cdv A outer s H E hr hu tk po =>
  have nd : N__law_grip.Nodup := c__law_grip.nd; have hu4 := Nat.lt_of_succ_lt hu
  (s_cons (s_if (t_cmp o_gt (e_ix hu (e_var 0) e_int) e_int) (s_cons (s_set 3 nd (e_op o_mod (e_biT c_int B.int blt_int (a_cons (e_ix hu (e_var 0) e_int) a_nil)) (e_var 1)))
    (s_cons (s_setI hu (e_op o_fdiv (e_ix hu (e_var 0) e_int) (e_var 1)) (e_var 0) e_int)
    (s_one (s_ret (e_var 3))))) s_nil)
    (s_cons (s_setI hu (e_op o_mod (e_biT c_int B.int blt_int (a_cons (e_op o_add (e_op o_mul (e_ix hu (e_var 0) e_int) e_int) e_int) a_nil)) e_int) (e_var 0) e_int)
    (s_cons (s_set 2 nd (e_op o_mod (e_biT c_int B.int blt_int (a_cons (e_op o_mul (e_ix hu (e_var 0) e_int) (e_op o_add (e_ix hu (e_var 0) e_int) e_int)) a_nil)) e_int))
    (s_one (s_ret (e_op o_mod (e_biT c_int B.int blt_int (a_cons (e_op o_fdiv (e_var 2) e_int) a_nil)) (e_var 1)))))))
theorem ok__law_grip {f : Addr} {fd : FuncData} {k : Nat} (B : Bn P w K mg T) (Fu : Fun K "_law_grip" "_law_grip" s__law_grip f fd) : FnOk P w K mg base (L2.CX P w) (k + 1) f fd p__law_grip (sp1 ⟨P, w, K, mg, T⟩ 2 0 F__law_grip) :=
  ok1 Fu c__law_grip (d__law_grip B) rfl (fun _ _ _ => rfl)
abbrev s__law_worth : Stmt := topS 43
abbrev N__law_worth : List Str := ["goods", "found", "turn"]
abbrev p__law_worth : List Str := ["goods"]
theorem c__law_worth : FnScope N__law_worth p__law_worth (defScope s__law_worth) := ⟨rfl, rfl, rfl, by decide +kernel, rfl, by decide +kernel, by decide +kernel⟩
def m__law_worth : MS :=
  (seqM (asgM (conM (.int 1)) (namG 1))
    (seqM (forM (rng1I (varM 0)) (namG 2)
    (asgM (op2M mulG (conM (.int 2)) (varM 1)) (namG 1)))
    (retM (varM 1))))
def F__law_worth : List D → R := run0 3 m__law_worth
theorem d__law_worth {f : Addr} {k : Nat} (B : Bn P w K mg T) : Der P w K mg base T N__law_worth "_law_worth" s__law_worth f k m__law_worth := fun cdv A outer s H E hr hu tk po =>
  have nd : N__law_worth.Nodup := c__law_worth.nd; have hu4 := Nat.lt_of_succ_lt hu
  (s_cons (s_set 1 nd e_int)
    (s_cons (s_for po rfl (i_rng1 B.range (a_cons (e_var 0) a_nil)) (g_nam 2 nd)
    (s_one (s_set 1 nd (e_op o_mul e_int (e_var 1)))))
    (s_one (s_ret (e_var 1)))))
theorem ok__law_worth {f : Addr} {fd : FuncData} {k : Nat} (B : Bn P w K mg T) (Fu : Fun K "_law_worth" "_law_worth" s__law_worth f fd) : FnOk P w K mg base (L2.CX P w) (k + 1) f fd p__law_worth (sp0 ⟨P, w, K, mg, T⟩ 1 F__law_worth) :=
  ok0 Fu c__law_worth (d__law_worth B) rfl (fun _ _ => rfl)
abbrev s__law_figure : Stmt := topS 44
abbrev N__law_figure : List Str := ["number", "goods"]
abbrev p__law_figure : List Str := ["number", "goods"]
theorem c__law_figure : FnScope N__law_figure p__law_figure (defScope s__law_figure) := ⟨rfl, rfl, rfl, by decide +kernel, rfl, by decide +kernel, by decide +kernel⟩
def m__law_figure : MS :=
  (retM (op2M eqG (op2M modG (op2M fdivG (varM 0) (callM F__law_worth [(varM 1)])) (conM (.int 2))) (conM (.int 1))))
def F__law_figure : List D → R := run0 2 m__law_figure
theorem d__law_figure {f : Addr} {k : Nat} (B : Bn P w K mg T) (h__law_worth : Kn ⟨P, w, K, mg, T⟩ base k "_law_worth" (sp0 ⟨P, w, K, mg, T⟩ 1 F__law_worth)) : Der P w K mg base T N__law_figure "_law_figure" s__law_figure f k m__law_figure := fun cdv A outer s H E hr hu tk po =>
  have nd : N__law_figure.Nodup := c__law_figure.nd; have hu4 := Nat.lt_of_succ_lt hu
  (s_one (s_ret (e_cmp (o_eq hu4) (e_op o_mod (e_op o_fdiv (e_var 0) (e_call h__law_worth hr tk rfl (a_cons (e_var 1) a_nil))) e_int) e_int)))
theorem ok__law_figure {f : Addr} {fd : FuncData} {k : Nat} (B : Bn P w K mg T) (h__law_worth : Kn ⟨P, w, K, mg, T⟩ base k "_law_worth" (sp0 ⟨P, w, K, mg, T⟩ 1 F__law_worth)) (Fu : Fun K "_law_figure" "_law_figure" s__law_figure f fd) : FnOk P w K mg base (L2.CX P w) (k + 1) f fd p__law_figure (sp0 ⟨P, w, K, mg, T⟩ 2 F__law_figure) :=
  ok0 Fu c__law_figure (d__law_figure B h__law_worth) rfl (fun _ _ => rfl)
abbrev s__law_join : Stmt := topS 45
abbrev N__law_join : List Str := ["one", "other", "numbers", "goods", "outer", "inner", "old", "some", "mine", "yours", "at", "old_so", "truth"]
abbrev p__law_join : List Str := ["one", "other"]
theorem c__law_join : FnScope N__law_join p__law_join (defScope s__law_join) := ⟨rfl, rfl, rfl, by decide +kernel, rfl, by decide +kernel, by decide +kernel⟩
def m__law_join : MS :=
  (seqM (asgM (lstM [(conM (.int 0)), (conM (.int 0)), (conM (.int 0)), (conM (.int 0))]) (namG 2))
    (seqM (forM (rng1I (conM (.int 16))) (namG 3)
    (seqM (asgM (lcM (seqI (tupM [(conM (.int 1)), (conM (.int 2)), (conM (.int 4)), (conM (.int 8))])) (.one 10) yesM (op2M modG (op2M fdivG (varM 3) (varM 10)) (conM (.int 2))) [10]) (namG 4))
    (seqM (parsM [5, 6] [(lstM [(conM (.int 0)), (conM (.int 0)), (conM (.int 0)), (conM (.int 0))]), (conM .non)])
    (seqM (whM (tstM (op2M neG (varM 6) (varM 5))) (seqM (asgM (biM listG [(varM 5)]) (namG 6))
    (seqM (asgM (op2M addG (op2M addG (op2M addG (op2M ixG (varM 4) (conM (.int 0))) (op2M mulG (conM (.int 2)) (op2M ixG (varM 4) (conM (.int 1))))) (op2M mulG (conM (.int 4)) (op2M ixG (varM 5) (conM (.int 0))))) (op2M mulG (conM (.int 8)) (op2M ixG (varM 5) (conM (.int 1))))) (namG 8))
    (seqM (asgM (op2M addG (op2M addG (op2M addG (op2M ixG (varM 5) (conM (.int 2))) (op2M mulG (conM (.int 2)) (op2M ixG (varM 5) (conM (.int 3))))) (op2M mulG (conM (.int 4)) (op2M ixG (varM 4) (conM (.int 2))))) (op2M mulG (conM (.int 8)) (op2M ixG (varM 4) (conM (.int 3))))) (namG 9))
    (asgM (lstM [(biM intG [(callM F__law_figure [(op2M ixG (varM 1) (conM (.int 0))), (varM 9)])]), (biM intG [(callM F__law_figure [(op2M ixG (varM 1) (conM (.int 1))), (varM 9)])]), (biM intG [(callM F__law_figure [(op2M ixG (varM 0) (conM (.int 2))), (varM 8)])]), (biM intG [(callM F__law_figure [(op2M ixG (varM 0) (conM (.int 3))), (varM 8)])])]) (namG 5))))))
    (seqM (asgM (lstM [(callM F__law_figure [(op2M ixG (varM 0) (conM (.int 0))), (varM 8)]), (callM F__law_figure [(op2M ixG (varM 0) (conM (.int 1))), (varM 8)])]) (namG 7))
    (seqM (asgM (op2M addG (varM 7) (lstM [(callM F__law_figure [(op2M ixG (varM 1) (conM (.int 2))), (varM 9)]), (callM F__law_figure [(op2M ixG (varM 1) (conM (.int 3))), (varM 9)])])) (namG 7))
    (asgM (lcM (zpBI (varM 2) (varM 7)) (.many [11, 12]) yesM (op2M addG (varM 11) (iteM (tstM (varM 12)) (callM F__law_worth [(varM 3)]) (conM (.int 0)))) [11, 12]) (namG 2))))))))
    (retM (biM tupleG [(varM 2)]))))
def F__law_join : List D → R := run0 13 m__law_join
theorem d__law_join {f : Addr} {k : Nat} (B : Bn P w K mg T) (h__law_figure : Kn ⟨P, w, K, mg, T⟩ base k "_law_figure" (sp0 ⟨P, w, K, mg, T⟩ 2 F__law_figure)) (h__law_worth : Kn ⟨P, w, K, mg, T⟩ base k "_law_worth" (sp0 ⟨P, w, K, mg, T⟩ 1 F__law_worth)) : Der P w K mg base T N__law_join "_law_join" s__law_join f k m__law_join := fun cdv A outer s H E hr hu tk po =>
  have nd : N__law_join.Nodup := c__law_join.nd; have hu4 := Nat.lt_of_succ_lt hu
  (s_cons (s_set 2 nd (e_lst (a_cons e_int (a_cons e_int (a_cons e_int (a_cons e_int a_nil))))))
    (s_cons (s_for po rfl (i_rng1 B.range (a_cons e_int a_nil)) (g_nam 3 nd)
    (s_cons (s_lc 4 (.one 10) [("at", 10)] rfl nd (i_seq (e_tup (a_cons e_int (a_cons e_int (a_cons e_int (a_cons e_int a_nil)))))) (blkOk_by (N := N__law_join) (sc := defScope s__law_join) (by decide +kernel)) (fun _ _ _ _ _ => (pg_name (i := 10) nd rfl (Or.inl rfl))) (fun _ _ _ _ _ tk => ts_nil) (fun _ _ _ _ _ tk => (e_op o_mod (e_op o_fdiv (e_var 3) (e_var 10)) e_int)) (by decide) (sw_true rfl rfl rfl (by decide +kernel)))
    (s_cons (s_par2 5 6 rfl nd (a_cons (e_lst (a_cons e_int (a_cons e_int (a_cons e_int (a_cons e_int a_nil))))) (a_cons e_non a_nil)))
    (s_cons (s_while po (t_cmp (o_ne hu4) (e_var 6) (e_var 5)) (s_cons (s_set 6 nd (e_biT c_list B.list blt_list (a_cons (e_var 5) a_nil)))
    (s_cons (s_set 8 nd (e_op o_add (e_op o_add (e_op o_add (e_ix hu (e_var 4) e_int) (e_op o_mul e_int (e_ix hu (e_var 4) e_int))) (e_op o_mul e_int (e_ix hu (e_var 5) e_int))) (e_op o_mul e_int (e_ix hu (e_var 5) e_int))))
    (s_cons (s_set 9 nd (e_op o_add (e_op o_add (e_op o_add (e_ix hu (e_var 5) e_int) (e_op o_mul e_int (e_ix hu (e_var 5) e_int))) (e_op o_mul e_int (e_ix hu (e_var 4) e_int))) (e_op o_mul e_int (e_ix hu (e_var 4) e_int))))
    (s_one (s_set 5 nd (e_lst (a_cons (e_biT c_int B.int blt_int (a_cons (e_call h__law_figure hr tk rfl (a_cons (e_ix hu (e_var 1) e_int) (a_cons (e_var 9) a_nil))) a_nil)) (a_cons (e_biT c_int B.int blt_int (a_cons (e_call h__law_figure hr tk rfl (a_cons (e_ix hu (e_var 1) e_int) (a_cons (e_var 9) a_nil))) a_nil)) (a_cons (e_biT c_int B.int blt_int (a_cons (e_call h__law_figure hr tk rfl (a_cons (e_ix hu (e_var 0) e_int) (a_cons (e_var 8) a_nil))) a_nil)) (a_cons (e_biT c_int B.int blt_int (a_cons (e_call h__law_figure hr tk rfl (a_cons (e_ix hu (e_var 0) e_int) (a_cons (e_var 8) a_nil))) a_nil)) a_nil)))))))))))
    (s_cons (s_set 7 nd (e_lst (a_cons (e_call h__law_figure hr tk rfl (a_cons (e_ix hu (e_var 0) e_int) (a_cons (e_var 8) a_nil))) (a_cons (e_call h__law_figure hr tk rfl (a_cons (e_ix hu (e_var 0) e_int) (a_cons (e_var 8) a_nil))) a_nil))))
    (s_cons (s_set 7 nd (e_op o_add (e_var 7) (e_lst (a_cons (e_call h__law_figure hr tk rfl (a_cons (e_ix hu (e_var 1) e_int) (a_cons (e_var 9) a_nil))) (a_cons (e_call h__law_figure hr tk rfl (a_cons (e_ix hu (e_var 1) e_int) (a_cons (e_var 9) a_nil))) a_nil)))))
    (s_one (s_lc 2 (.many [11, 12]) [("old_so", 11), ("truth", 12)] rfl nd (i_zip2 B.zip (a_cons (e_var 2) (a_cons (e_var 7) a_nil))) (blkOk_by (N := N__law_join) (sc := defScope s__law_join) (by decide +kernel)) (fun _ _ _ _ _ => (pg_tup rfl (gns_cons (pg_name (i := 11) nd rfl (Or.inl rfl)) (gns_cons (pg_name (i := 12) nd rfl (Or.inl rfl)) gns_nil)))) (fun _ _ _ _ _ tk => ts_nil) (fun _ _ _ _ _ tk => (e_op o_add (e_var 11) (e_if (t_val (e_var 12)) (e_call h__law_worth hr tk rfl (a_cons (e_var 3) a_nil)) e_int))) (by decide) (sw_true rfl rfl rfl (by decide +kernel))))))))))
    (s_one (s_ret (e_biT c_tuple B.tuple blt_tuple (a_cons (e_var 2) a_nil))))))
theorem ok__law_join {f : Addr} {fd : FuncData} {k : Nat} (B : Bn P w K mg T) (h__law_figure : Kn ⟨P, w, K, mg, T⟩ base k "_law_figure" (sp0 ⟨P, w, K, mg, T⟩ 2 F__law_figure)) (h__law_worth : Kn ⟨P, w, K, mg, T⟩ base k "_law_worth" (sp0 ⟨P, w, K, mg, T⟩ 1 F__law_worth)) (Fu : Fun K "_law_join" "_law_join" s__law_join f fd) : FnOk P w K mg base (L2.CX P w) (k + 1) f fd p__law_join (sp0 ⟨P, w, K, mg, T⟩ 2 F__law_join) :=
  ok0 Fu c__law_join (d__law_join B h__law_figure h__law_worth) rfl (fun _ _ => rfl)
abbrev s__law_int : Stmt := topS 46
abbrev N__law_int : List Str := ["value", "low", "high"]
abbrev p__law_int : List Str := ["value", "low", "high"]
theorem c__law_int : FnScope N__law_int p__law_int (defScope s__law_int) := ⟨rfl, rfl, rfl, by decide +kernel, rfl, by decide +kernel, by decide +kernel⟩
def m__law_int : MS :=
  (retM (andM (isM .int (varM 0)) (andM (notM (isM .bool (varM 0))) (chM leG leG (varM 1) (varM 0) (varM 2)))))
def F__law_int : List D → R := run0 3 m__law_int
theorem d__law_int {f : Addr} {k : Nat} (B : Bn P w K mg T) : Der P w K mg base T N__law_int "_law_int" s__law_int f k m__law_int := fun cdv A outer s H E hr hu tk po =>
  have nd : N__law_int.Nodup := c__law_int.nd; have hu4 := Nat.lt_of_succ_lt hu
  (s_one (s_ret (e_and (e_isi .int B.isinstance B.int blt_int (e_var 0)) (e_and (e_not (e_isi .bool B.isinstance B.bool blt_bool (e_var 0))) (e_one (e_ch o_le o_le (e_var 1) (e_var 0) (e_var 2)))))))
theorem ok__law_int {f : Addr} {fd : FuncData} {k : Nat} (B : Bn P w K mg T) (Fu : Fun K "_law_int" "_law_int" s__law_int f fd) : FnOk P w K mg base (L2.CX P w) (k + 1) f fd p__law_int (sp0 ⟨P, w, K, mg, T⟩ 3 F__law_int) :=
  ok0 Fu c__law_int (d__law_int B) rfl (fun _ _ => rfl)
abbrev s__law_both : Stmt := topS 48
abbrev N__law_both : List Str := ["one", "other", "at"]
abbrev p__law_both : List Str := ["one", "other"]
theorem c__law_both : FnScope N__law_both p__law_both (defScope s__law_both) := ⟨rfl, rfl, rfl, by decide +kernel, rfl, by decide +kernel, by decide +kernel⟩
def m__law_both : MS :=
  (retM (biM sumG [(lcM (seqI (tupM [(conM (.int 1)), (conM (.int 2)), (conM (.int 4)), (conM (.int 8))])) (.one 2) (andT (tstM (op2M eqG (op2M modG (op2M fdivG (varM 0) (varM 2)) (conM (.int 2))) (conM (.int 1)))) (tstM (op2M eqG (op2M modG (op2M fdivG (varM 1) (varM 2)) (conM (.int 2))) (conM (.int 1))))) (varM 2) [2])]))
def F__law_both : List D → R := run0 3 m__law_both
theorem d__law_both {f : Addr} {k : Nat} (B : Bn P w K mg T) : Der P w K mg base T N__law_both "_law_both" s__law_both f k m__law_both := fun cdv A outer s H E hr hu tk po =>
  have nd : N__law_both.Nodup := c__law_both.nd; have hu4 := Nat.lt_of_succ_lt hu
  (s_one (s_ret (e_bi (c_sum rfl) B.sum blt_sum (a_cons (e_lc (.one 2) [("at", 2)] rfl nd (i_seq (e_tup (a_cons e_int (a_cons e_int (a_cons e_int (a_cons e_int a_nil)))))) (blkOk_by (N := N__law_both) (sc := defScope s__law_both) (by decide +kernel)) (fun _ _ _ _ _ => (pg_name (i := 2) nd rfl (Or.inl rfl))) (fun _ _ _ _ _ tk => (ts_one (PW.pt (w_and (t_cmp (o_eq hu4) (e_op o_mod (e_op o_fdiv (e_var 0) (e_var 2)) e_int) e_int) (w_and1 (t_cmp (o_eq hu4) (e_op o_mod (e_op o_fdiv (e_var 1) (e_var 2)) e_int) e_int)))))) (fun _ _ _ _ _ tk => (e_var 2)) (by decide)) a_nil))))
theorem ok__law_both {f : Addr} {fd : FuncData} {k : Nat} (B : Bn P w K mg T) (Fu : Fun K "_law_both" "_law_both" s__law_both f fd) : FnOk P w K mg base (L2.CX P w) (k + 1) f fd p__law_both (sp0 ⟨P, w, K, mg, T⟩ 2 F__law_both) :=
  ok0 Fu c__law_both (d__law_both B) rfl (fun _ _ => rfl)
abbrev s__law_rising : Stmt := topS 47
abbrev N__law_rising : List Str := ["sack", "some", "found", "goods", "turn", "one"]
abbrev p__law_rising : List Str := ["sack"]
theorem c__law_rising : FnScope N__law_rising p__law_rising (defScope s__law_rising) := ⟨rfl, rfl, rfl, by decide +kernel, rfl, by decide +kernel, by decide +kernel⟩
def m__law_rising : MS :=
  (seqM (asgM (lcM (rng1I (callC 0 F__law_grip [(varM 0), (conM (.int 4))])) (.one 4) yesM (callC 0 F__law_grip [(varM 0), (conM (.int 16))]) [4]) (namG 1))
    (seqM (asgM (conM (.int 0)) (namG 2))
    (seqM (forM (rng1I (conM (.int 16))) (namG 3)
    (ifM (tstM (op2M neG (lcM (seqI (varM 1)) (.one 5) (tstM (op2M eqG (op2M subG (op2M addG (varM 5) (varM 3)) (callM F__law_both [(varM 5), (varM 3)])) (varM 3))) (varM 5) [5]) (lstM []))) (asgM (op2M addG (varM 2) (callM F__law_worth [(varM 3)])) (namG 2)) nxtM))
    (retM (varM 2)))))
def F__law_rising : List D → Cell → R1 := run1 6 0 m__law_rising
theorem d__law_rising {f : Addr} {k : Nat} (B : Bn P w K mg T) (h__law_grip : Kn ⟨P, w, K, mg, T⟩ base k "_law_grip" (sp1 ⟨P, w, K, mg, T⟩ 2 0 F__law_grip)) (h__law_both : Kn ⟨P, w, K, mg, T⟩ base k "_law_both" (sp0 ⟨P, w, K, mg, T⟩ 2 F__law_both)) (h__law_worth : Kn ⟨P, w, K, mg, T⟩ base k "_law_worth" (sp0 ⟨P, w, K, mg, T⟩ 1 F__law_worth)) : Der P w K mg base T N__law_rising "_law_rising" s__law_rising f k m__law_rising := fun cdv A outer s H E hr hu tk po =>
  have nd : N__law_rising.Nodup := c__law_rising.nd; have hu4 := Nat.lt_of_succ_lt hu
  (s_cons (s_lc 1 (.one 4) [("turn", 4)] rfl nd (i_rng1 B.range (a_cons (e_callC h__law_grip hr tk rfl (a_cons (e_var 0) (a_cons e_int a_nil))) a_nil)) (blkOk_by (N := N__law_rising) (sc := defScope s__law_rising) (by decide +kernel)) (fun _ _ _ _ _ => (pg_name (i := 4) nd rfl (Or.inl rfl))) (fun _ _ _ _ _ tk => ts_nil) (fun _ _ _ _ _ tk => (e_callC h__law_grip hr tk rfl (a_cons (e_var 0) (a_cons e_int a_nil)))) (by decide) (sw_true rfl rfl rfl (by decide +kernel)))
    (s_cons (s_set 2 nd e_int)
    (s_cons (s_for po rfl (i_rng1 B.range (a_cons e_int a_nil)) (g_nam 3 nd)
    (s_one (s_if (t_cmp (o_ne hu4) (e_lc (.one 5) [("one", 5)] rfl nd (i_seq (e_var 1)) (blkOk_by (N := N__law_rising) (sc := defScope s__law_rising) (by decide +kernel)) (fun _ _ _ _ _ => (pg_name (i := 5) nd rfl (Or.inl rfl))) (fun _ _ _ _ _ tk => (ts_one (t_cmp (o_eq hu4) (e_op o_sub (e_op o_add (e_var 5) (e_var 3)) (e_call h__law_both hr tk rfl (a_cons (e_var 5) (a_cons (e_var 3) a_nil)))) (e_var 3)))) (fun _ _ _ _ _ tk => (e_var 5)) (by decide)) (e_lst a_nil)) (s_one (s_set 2 nd (e_op o_add (e_var 2) (e_call h__law_worth hr tk rfl (a_cons (e_var 3) a_nil))))) s_nil)))
    (s_one (s_ret (e_var 2))))))
theorem ok__law_rising {f : Addr} {fd : FuncData} {k : Nat} (B : Bn P w K mg T) (h__law_grip : Kn ⟨P, w, K, mg, T⟩ base k "_law_grip" (sp1 ⟨P, w, K, mg, T⟩ 2 0 F__law_grip)) (h__law_both : Kn ⟨P, w, K, mg, T⟩ base k "_law_both" (sp0 ⟨P, w, K, mg, T⟩ 2 F__law_both)) (h__law_worth : Kn ⟨P, w, K, mg, T⟩ base k "_law_worth" (sp0 ⟨P, w, K, mg, T⟩ 1 F__law_worth)) (Fu : Fun K "_law_rising" "_law_rising" s__law_rising f fd) : FnOk P w K mg base (L2.CX P w) (k + 1) f fd p__law_rising (sp1 ⟨P, w, K, mg, T⟩ 1 0 F__law_rising) :=
  ok1 Fu c__law_rising (d__law_rising B h__law_grip h__law_both h__law_worth) rfl (fun _ _ _ => rfl)
abbrev s__law_is_sign : Stmt := topS 49
abbrev N__law_is_sign : List Str := ["value", "number", "goods", "at"]
abbrev p__law_is_sign : List Str := ["value"]
theorem c__law_is_sign : FnScope N__law_is_sign p__law_is_sign (defScope s__law_is_sign) := ⟨rfl, rfl, rfl, by decide +kernel, rfl, by decide +kernel, by decide +kernel⟩
def m__law_is_sign : MS :=
  (seqM (ifM (orT (notT (tstM (isM .tuple (varM 0)))) (tstM (op2M neG (biM lenG [(varM 0)]) (conM (.int 4))))) (retM (conM (.bl false))) nxtM)
    (seqM (forM (seqI (varM 0)) (namG 1)
    (seqM (ifM (notT (tstM (callM F__law_int [(varM 1), (conM (.int 0)), (conM (.int 65535))]))) (retM (conM (.bl false))) nxtM)
    (forM (rng1I (conM (.int 16))) (namG 2)
    (forM (seqI (tupM [(conM (.int 1)), (conM (.int 2)), (conM (.int 4)), (conM (.int 8))])) (namG 3)
    (ifM (andT (tstM (callM F__law_figure [(varM 1), (varM 2)])) (andT (tstM (op2M eqG (op2M modG (op2M fdivG (varM 2) (varM 3)) (conM (.int 2))) (conM (.int 0)))) (notT (tstM (callM F__law_figure [(varM 1), (op2M addG (varM 2) (varM 3))]))))) (retM (conM (.bl false))) nxtM)))))
    (retM (conM (.bl true)))))
def F__law_is_sign : List D → R := run0 4 m__law_is_sign
theorem d__law_is_sign {f : Addr} {k : Nat} (B : Bn P w K mg T) (h__law_int : Kn ⟨P, w, K, mg, T⟩ base k "_law_int" (sp0 ⟨P, w, K, mg, T⟩ 3 F__law_int)) (h__law_figure : Kn ⟨P, w, K, mg, T⟩ base k "_law_figure" (sp0 ⟨P, w, K, mg, T⟩ 2 F__law_figure)) : Der P w K mg base T N__law_is_sign "_law_is_sign" s__law_is_sign f k m__law_is_sign := fun cdv A outer s H E hr hu tk po =>
  have nd : N__law_is_sign.Nodup := c__law_is_sign.nd; have hu4 := Nat.lt_of_succ_lt hu
  (s_cons (s_if (PW.pt (w_or (t_not (t_val (e_isi .tuple B.isinstance B.tuple blt_tuple (e_var 0)))) (w_or1 (t_cmp (o_ne hu4) (e_bi c_len B.len blt_len (a_cons (e_var 0) a_nil)) e_int)))) (s_one (s_ret e_bl)) s_nil)
    (s_cons (s_for po rfl (i_seq (e_var 0)) (g_nam 1 nd)
    (s_cons (s_if (t_not (t_val (e_call h__law_int hr tk rfl (a_cons (e_var 1) (a_cons e_int (a_cons e_int a_nil)))))) (s_one (s_ret e_bl)) s_nil)
    (s_one (s_for po rfl (i_rng1 B.range (a_cons e_int a_nil)) (g_nam 2 nd)
    (s_one (s_for po rfl (i_seq (e_tup (a_cons e_int (a_cons e_int (a_cons e_int (a_cons e_int a_nil)))))) (g_nam 3 nd)
    (s_one (s_if (PW.pt (w_and (t_val (e_call h__law_figure hr tk rfl (a_cons (e_var 1) (a_cons (e_var 2) a_nil)))) (w_and (t_cmp (o_eq hu4) (e_op o_mod (e_op o_fdiv (e_var 2) (e_var 3)) e_int) e_int) (w_and1 (t_not (t_val (e_call h__law_figure hr tk rfl (a_cons (e_var 1) (a_cons (e_op o_add (e_var 2) (e_var 3)) a_nil))))))))) (s_one (s_ret e_bl)) s_nil))))))))
    (s_one (s_ret e_bl))))
theorem ok__law_is_sign {f : Addr} {fd : FuncData} {k : Nat} (B : Bn P w K mg T) (h__law_int : Kn ⟨P, w, K, mg, T⟩ base k "_law_int" (sp0 ⟨P, w, K, mg, T⟩ 3 F__law_int)) (h__law_figure : Kn ⟨P, w, K, mg, T⟩ base k "_law_figure" (sp0 ⟨P, w, K, mg, T⟩ 2 F__law_figure)) (Fu : Fun K "_law_is_sign" "_law_is_sign" s__law_is_sign f fd) : FnOk P w K mg base (L2.CX P w) (k + 1) f fd p__law_is_sign (sp0 ⟨P, w, K, mg, T⟩ 1 F__law_is_sign) :=
  ok0 Fu c__law_is_sign (d__law_is_sign B h__law_int h__law_figure) rfl (fun _ _ => rfl)
abbrev s__law_refused : Stmt := topS 50
abbrev N__law_refused : List Str := ["one", "other"]
abbrev p__law_refused : List Str := ["one", "other"]
theorem c__law_refused : FnScope N__law_refused p__law_refused (defScope s__law_refused) := ⟨rfl, rfl, rfl, by decide +kernel, rfl, by decide +kernel, by decide +kernel⟩
def m__law_refused : MS :=
  (seqM (tryM sub_t (drpM (callM F_join [(varM 0), (varM 1)])) [("InvalidSign", (retM (conM (.bl true)))), ("RoadError", (retM (conM (.bl false))))])
    (retM (conM (.bl false))))
def F__law_refused : List D → R := run0 2 m__law_refused
theorem d__law_refused {f : Addr} {k : Nat} (B : Bn P w K mg T) (h_join : Kn ⟨P, w, K, mg, T⟩ base k "join" (sp0 ⟨P, w, K, mg, T⟩ 2 F_join)) : Der P w K mg base T N__law_refused "_law_refused" s__law_refused f k m__law_refused := fun cdv A outer s H E hr hu tk po =>
  have nd : N__law_refused.Nodup := c__law_refused.nd; have hu4 := Nat.lt_of_succ_lt hu
  (s_cons (by obtain ⟨C_InvalidSign, cm_InvalidSign⟩ := B.c_InvalidSign; obtain ⟨C_RoadError, cm_RoadError⟩ := B.c_RoadError; exact s_try B.sub tk (fun _ _ _ tk po => (s_one (s_expr (e_call h_join hr tk rfl (a_cons (e_var 0) (a_cons (e_var 1) a_nil)))))) (.cons cm_InvalidSign rfl (by decide) (fun _ _ _ => (s_one (s_ret e_bl))) (.cons cm_RoadError rfl (by decide) (fun _ _ _ => (s_one (s_ret e_bl))) .nil)))
    (s_one (s_ret e_bl)))
theorem ok__law_refused {f : Addr} {fd : FuncData} {k : Nat} (B : Bn P w K mg T) (h_join : Kn ⟨P, w, K, mg, T⟩ base k "join" (sp0 ⟨P, w, K, mg, T⟩ 2 F_join)) (Fu : Fun K "_law_refused" "_law_refused" s__law_refused f fd) : FnOk P w K mg base (L2.CX P w) (k + 1) f fd p__law_refused (sp0 ⟨P, w, K, mg, T⟩ 2 F__law_refused) :=
  ok0 Fu c__law_refused (d__law_refused B h_join) rfl (fun _ _ => rfl)
abbrev s_law : Stmt := topS 51
abbrev N_law : List Str := ["script", "empty", "cell", "ahead", "sack", "signs", "turn", "one", "two", "three", "values", "value", "said", "due"]
abbrev p_law : List Str := ["script"]
theorem c_law : FnScope N_law p_law (defScope s_law) := ⟨rfl, rfl, rfl, by decide +kernel, rfl, by decide +kernel, by decide +kernel⟩
def m_law : MS :=
  (seqM (asgM (tupM [(conM (.int 61680)), (conM (.int 65280)), (conM (.int 43690)), (conM (.int 52428))]) (namG 1))
    (seqM (forM (seqI (slM (op2M addG (lstM [(conM (.int 0))]) (varM 0)) noP (someP (conM (.int 6))))) (namG 2)
    (scpM [4, 5] (seqM (asgM (callN F__law_sack [(varM 2), (conM (.int 15))]) (namG 4))
    (seqM (asgM (nlsM []) (namG 5))
    (seqM (forM (rng1I (conM (.int 3))) (namG 6)
    (drpM (appM (varM 5) (tupM [(callC 0 F__law_rising [(varM 4)]), (callC 0 F__law_rising [(varM 4)]), (callC 0 F__law_rising [(varM 4)]), (callC 0 F__law_rising [(varM 4)])]))))
    (seqM (asgM (varM 5) (lsuG [(namG 7), (namG 8), (namG 9)]))
    (seqM (ifM (orT (tstM (op2M neG (callM F_join [(varM 7), (varM 8)]) (callM F__law_join [(varM 7), (varM 8)]))) (orT (tstM (op2M neG (callM F_join [(varM 1), (varM 7)]) (varM 7))) (tstM (op2M neG (callM F_join [(varM 7), (varM 1)]) (varM 7))))) (retM (conM (.bl false))) nxtM)
    (seqM (ifM (tstM (op2M neG (callM F_join [(callM F_join [(varM 7), (varM 8)]), (varM 9)]) (callM F_join [(varM 7), (callM F_join [(varM 8), (varM 9)])]))) (retM (conM (.bl false))) nxtM)
    (seqM (asgM (lstM [(varM 7), (slM (varM 7) noP (someP (conM (.int 3)))), (biM listG [(varM 7)]), (op2M addG (slM (varM 7) noP (someP (conM (.int 3)))) (tupM [(conM (.int 65536))])), (op2M addG (slM (varM 7) noP (someP (conM (.int 3)))) (tupM [(op1M negG (conM (.int 1)))])), (op2M addG (tupM [(conM (.bl true))]) (slM (varM 7) (someP (conM (.int 1))) noP)), (conM .non)]) (namG 10))
    (seqM (asgM (op2M addG (varM 10) (lcM (rng1I (conM (.int 6))) (.one 6) yesM (op2M addG (op2M addG (slM (varM 7) noP (someP (conM (.int 2)))) (tupM [(callC 0 F__law_grip [(varM 4), (conM (.int 65536))])])) (slM (varM 7) (someP (conM (.int 3))) noP)) [6])) (namG 10))
    (seqM (asgM (op2M addG (varM 10) (lstM [(op2M mulG (tupM [(conM (.int 65535))]) (conM (.int 4))), (tupM [(conM (.int 1)), (conM (.int 0)), (conM (.int 0)), (conM (.int 0))])])) (namG 10))
    (forM (seqI (varM 10)) (namG 11)
    (seqM (parsM [12, 13] [(callM F_is_sign [(varM 11)]), (callM F__law_is_sign [(varM 11)])])
    (seqM (ifM (orT (notT (tstM (isM .bool (varM 12)))) (tstM (op2M neG (varM 12) (varM 13)))) (retM (conM (.bl false))) nxtM)
    (ifM (andT (notT (tstM (varM 13))) (notT (andT (tstM (callM F__law_refused [(varM 11), (varM 7)])) (tstM (callM F__law_refused [(varM 7), (varM 11)]))))) (retM (conM (.bl false))) nxtM)))))))))))))))
    (seqM (asgM (tupM [(tupM [(conM (.str "right"))]), (tupM [(conM (.str "right"))])]) (namG 3))
    (seqM (ifM (orT (tstM (op2M neG (callM F_sign [(tupM [(varM 3)]), (tupM []), (conM (.str "first"))]) (varM 1))) (tstM (op2M isNotG (callM F_is_sign [(tupM [(conM (.int 0)), (conM (.int 0)), (conM (.int 0)), (conM (.int 0))])]) (conM (.bl true))))) (retM (conM (.bl false))) nxtM)
    (retM (op2M eqG (callM F_join [(tupM [(conM (.int 0)), (conM (.int 0)), (conM (.int 0)), (conM (.int 0))]), (op2M mulG (tupM [(conM (.int 65535))]) (conM (.int 4)))]) (tupM [(conM (.int 0)), (conM (.int 0)), (conM (.int 65535)), (conM (.int 65535))])))))))
def F_law : List D → R := run0 14 m_law
theorem d_law {f : Addr} {k : Nat} (B : Bn P w K mg T) (h__law_sack : Kn ⟨P, w, K, mg, T⟩ base k "_law_sack" (spN ⟨P, w, K, mg, T⟩ 2 F__law_sack)) (h__law_rising : Kn ⟨P, w, K, mg, T⟩ base k "_law_rising" (sp1 ⟨P, w, K, mg, T⟩ 1 0 F__law_rising)) (h_join : Kn ⟨P, w, K, mg, T⟩ base k "join" (sp0 ⟨P, w, K, mg, T⟩ 2 F_join)) (h__law_join : Kn ⟨P, w, K, mg, T⟩ base k "_law_join" (sp0 ⟨P, w, K, mg, T⟩ 2 F__law_join)) (h__law_grip : Kn ⟨P, w, K, mg, T⟩ base k "_law_grip" (sp1 ⟨P, w, K, mg, T⟩ 2 0 F__law_grip)) (h_is_sign : Kn ⟨P, w, K, mg, T⟩ base k "is_sign" (sp0 ⟨P, w, K, mg, T⟩ 1 F_is_sign)) (h__law_is_sign : Kn ⟨P, w, K, mg, T⟩ base k "_law_is_sign" (sp0 ⟨P, w, K, mg, T⟩ 1 F__law_is_sign)) (h__law_refused : Kn ⟨P, w, K, mg, T⟩ base k "_law_refused" (sp0 ⟨P, w, K, mg, T⟩ 2 F__law_refused)) (h_sign : Kn ⟨P, w, K, mg, T⟩ base k "sign" (sp0 ⟨P, w, K, mg, T⟩ 3 F_sign)) : Der P w K mg base T N_law "law" s_law f k m_law := fun cdv A outer s H E hr hu tk po =>
  have nd : N_law.Nodup := c_law.nd; have hu4 := Nat.lt_of_succ_lt hu
  (s_cons (s_set 1 nd (e_tup (a_cons e_int (a_cons e_int (a_cons e_int (a_cons e_int a_nil))))))
    (s_cons (s_for po rfl (i_seq (e_sl (e_op o_add (e_lst (a_cons e_int a_nil)) (e_var 0)) p_none (p_some e_int))) (g_nam 2 nd)
    (s_scp [4, 5] (s_cons (s_set 4 nd (e_callN h__law_sack hr tk rfl (a_cons (e_var 2) (a_cons e_int a_nil))))
    (s_cons (s_set 5 nd (e_nls a_nil))
    (s_cons (s_for po rfl (i_rng1 B.range (a_cons e_int a_nil)) (g_nam 6 nd)
    (s_one (s_expr (e_app (e_var 5) (e_tup (a_cons (e_callC h__law_rising hr tk rfl (a_cons (e_var 4) a_nil)) (a_cons (e_callC h__law_rising hr tk rfl (a_cons (e_var 4) a_nil)) (a_cons (e_callC h__law_rising hr tk rfl (a_cons (e_var 4) a_nil)) (a_cons (e_callC h__law_rising hr tk rfl (a_cons (e_var 4) a_nil)) a_nil)))))))))
    (s_cons (s_asg (e_var 5) (g_lsu rfl (gs_cons (g_nam 7 nd) (gs_cons (g_nam 8 nd) (gs_cons (g_nam 9 nd) gs_nil)))))
    (s_cons (s_if (PW.pt (w_or (t_cmp (o_ne hu4) (e_call h_join hr tk rfl (a_cons (e_var 7) (a_cons (e_var 8) a_nil))) (e_call h__law_join hr tk rfl (a_cons (e_var 7) (a_cons (e_var 8) a_nil)))) (w_or (t_cmp (o_ne hu4) (e_call h_join hr tk rfl (a_cons (e_var 1) (a_cons (e_var 7) a_nil))) (e_var 7)) (w_or1 (t_cmp (o_ne hu4) (e_call h_join hr tk rfl (a_cons (e_var 7) (a_cons (e_var 1) a_nil))) (e_var 7)))))) (s_one (s_ret e_bl)) s_nil)
    (s_cons (s_if (t_cmp (o_ne hu4) (e_call h_join hr tk rfl (a_cons (e_call h_join hr tk rfl (a_cons (e_var 7) (a_cons (e_var 8) a_nil))) (a_cons (e_var 9) a_nil))) (e_call h_join hr tk rfl (a_cons (e_var 7) (a_cons (e_call h_join hr tk rfl (a_cons (e_var 8) (a_cons (e_var 9) a_nil))) a_nil)))) (s_one (s_ret e_bl)) s_nil)
    (s_cons (s_set 10 nd (e_lst (a_cons (e_var 7) (a_cons (e_sl (e_var 7) p_none (p_some e_int)) (a_cons (e_biT c_list B.list blt_list (a_cons (e_var 7) a_nil)) (a_cons (e_op o_add (e_sl (e_var 7) p_none (p_some e_int)) (e_tup (a_cons e_int a_nil))) (a_cons (e_op o_add (e_sl (e_var 7) p_none (p_some e_int)) (e_tup (a_cons (e_un o_neg e_int) a_nil))) (a_cons (e_op o_add (e_tup (a_cons e_bl a_nil)) (e_sl (e_var 7) (p_some e_int) p_none)) (a_cons e_non a_nil)))))))))
    (s_cons (s_set 10 nd (e_op o_add (e_var 10) (e_lc (.one 6) [("turn", 6)] rfl nd (i_rng1 B.range (a_cons e_int a_nil)) (blkOk_by (N := N_law) (sc := defScope s_law) (by decide +kernel)) (fun _ _ _ _ _ => (pg_name (i := 6) nd rfl (Or.inl rfl))) (fun _ _ _ _ _ tk => ts_nil) (fun _ _ _ _ _ tk => (e_op o_add (e_op o_add (e_sl (e_var 7) p_none (p_some e_int)) (e_tup (a_cons (e_callC h__law_grip hr tk rfl (a_cons (e_var 4) (a_cons e_int a_nil))) a_nil))) (e_sl (e_var 7) (p_some e_int) p_none))) (by decide))))
    (s_cons (s_set 10 nd (e_op o_add (e_var 10) (e_lst (a_cons (e_op o_mul (e_tup (a_cons e_int a_nil)) e_int) (a_cons (e_tup (a_cons e_int (a_cons e_int (a_cons e_int (a_cons e_int a_nil))))) a_nil)))))
    (s_one (s_for po rfl (i_seq (e_var 10)) (g_nam 11 nd)
    (s_cons (s_par2 12 13 rfl nd (a_cons (e_call h_is_sign hr tk rfl (a_cons (e_var 11) a_nil)) (a_cons (e_call h__law_is_sign hr tk rfl (a_cons (e_var 11) a_nil)) a_nil)))
    (s_cons (s_if (PW.pt (w_or (t_not (t_val (e_isi .bool B.isinstance B.bool blt_bool (e_var 12)))) (w_or1 (t_cmp (o_ne hu4) (e_var 12) (e_var 13))))) (s_one (s_ret e_bl)) s_nil)
    (s_one (s_if (PW.pt (w_and (t_not (t_val (e_var 13))) (w_and1 (t_not (PW.pt (w_and (t_val (e_call h__law_refused hr tk rfl (a_cons (e_var 11) (a_cons (e_var 7) a_nil)))) (w_and1 (t_val (e_call h__law_refused hr tk rfl (a_cons (e_var 7) (a_cons (e_var 11) a_nil))))))))))) (s_one (s_ret e_bl)) s_nil)))))))))))))))))
    (s_cons (s_set 3 nd (e_tup (a_cons (e_tup (a_cons e_str a_nil)) (a_cons (e_tup (a_cons e_str a_nil)) a_nil))))
    (s_cons (s_if (PW.pt (w_or (t_cmp (o_ne hu4) (e_call h_sign hr tk rfl (a_cons (e_tup (a_cons (e_var 3) a_nil)) (a_cons (e_tup a_nil) (a_cons e_str a_nil)))) (e_var 1)) (w_or1 (t_cmp o_isnot (e_call h_is_sign hr tk rfl (a_cons (e_tup (a_cons e_int (a_cons e_int (a_cons e_int (a_cons e_int a_nil))))) a_nil)) e_bl)))) (s_one (s_ret e_bl)) s_nil)
    (s_one (s_ret (e_cmp (o_eq hu4) (e_call h_join hr tk rfl (a_cons (e_tup (a_cons e_int (a_cons e_int (a_cons e_int (a_cons e_int a_nil))))) (a_cons (e_op o_mul (e_tup (a_cons e_int a_nil)) e_int) a_nil))) (e_tup (a_cons e_int (a_cons e_int (a_cons e_int (a_cons e_int a_nil))))))))))))
theorem ok_law {f : Addr} {fd : FuncData} {k : Nat} (B : Bn P w K mg T) (h__law_sack : Kn ⟨P, w, K, mg, T⟩ base k "_law_sack" (spN ⟨P, w, K, mg, T⟩ 2 F__law_sack)) (h__law_rising : Kn ⟨P, w, K, mg, T⟩ base k "_law_rising" (sp1 ⟨P, w, K, mg, T⟩ 1 0 F__law_rising)) (h_join : Kn ⟨P, w, K, mg, T⟩ base k "join" (sp0 ⟨P, w, K, mg, T⟩ 2 F_join)) (h__law_join : Kn ⟨P, w, K, mg, T⟩ base k "_law_join" (sp0 ⟨P, w, K, mg, T⟩ 2 F__law_join)) (h__law_grip : Kn ⟨P, w, K, mg, T⟩ base k "_law_grip" (sp1 ⟨P, w, K, mg, T⟩ 2 0 F__law_grip)) (h_is_sign : Kn ⟨P, w, K, mg, T⟩ base k "is_sign" (sp0 ⟨P, w, K, mg, T⟩ 1 F_is_sign)) (h__law_is_sign : Kn ⟨P, w, K, mg, T⟩ base k "_law_is_sign" (sp0 ⟨P, w, K, mg, T⟩ 1 F__law_is_sign)) (h__law_refused : Kn ⟨P, w, K, mg, T⟩ base k "_law_refused" (sp0 ⟨P, w, K, mg, T⟩ 2 F__law_refused)) (h_sign : Kn ⟨P, w, K, mg, T⟩ base k "sign" (sp0 ⟨P, w, K, mg, T⟩ 3 F_sign)) (Fu : Fun K "law" "law" s_law f fd) : FnOk P w K mg base (L2.CX P w) (k + 1) f fd p_law (sp0 ⟨P, w, K, mg, T⟩ 1 F_law) :=
  ok0 Fu c_law (d_law B h__law_sack h__law_rising h_join h__law_join h__law_grip h_is_sign h__law_is_sign h__law_refused h_sign) rfl (fun _ _ => rfl)
end
/-! ### signs as numbers -/
open Sg in
abbrev B2 := Sg.B2
def ofBits : List Bool → Int
  | [] => 0
  | b :: bs => (if b = true then 1 else 0) + 2 * ofBits bs
def bitI (n : Int) (i : Nat) : Bool := n / 2 ^ i % 2 == 1
theorem bit_of : ∀ (bs : List Bool) (i : Nat) (h : i < bs.length), bitI (ofBits bs) i = bs[i]
  | [], i, h => by simp at h
  | b :: bs, 0, _ => by
    unfold bitI ofBits
    rw [Int.pow_zero, Int.ediv_one]
    cases b
    · have : ((if false = true then 1 else 0) + 2 * ofBits bs : Int) % 2 = 0 := by rw [if_neg Bool.false_ne_true]; omega
      rw [this]; rfl
    · have : ((if true = true then 1 else 0) + 2 * ofBits bs : Int) % 2 = 1 := by rw [if_pos rfl]; omega
      rw [this]; rfl
  | b :: bs, i + 1, h => by
    have ih := bit_of bs i (by simpa using h)
    unfold bitI at ih ⊢
    have e : ofBits (b :: bs) / 2 ^ (i + 1) = ofBits bs / 2 ^ i := by
      rw [Int.pow_succ, Int.mul_comm, ← Int.ediv_ediv_of_nonneg (by omega)]
      congr 1
      show ((if b = true then 1 else 0) + 2 * ofBits bs : Int) / 2 = ofBits bs
      cases b
      · rw [if_neg Bool.false_ne_true]; omega
      · rw [if_pos rfl]; omega
    rw [e, ih]
    rfl
/-- the sixteen lots of doors -/
def ins : List (B2 × B2) := [((false, false), (false, false)), ((true, false), (false, false)), ((false, true), (false, false)), ((true, true), (false, false)), ((false, false), (true, false)), ((true, false), (true, false)), ((false, true), (true, false)), ((true, true), (true, false)),
  ((false, false), (false, true)), ((true, false), (false, true)), ((false, true), (false, true)), ((true, true), (false, true)), ((false, false), (true, true)), ((true, false), (true, true)), ((false, true), (true, true)), ((true, true), (true, true))]
def num (f : B2 → B2 → Bool) : Int := ofBits (ins.map fun p => f p.1 p.2)
def lotN (x y : B2) : Nat := x.1.toNat + 2 * x.2.toNat + 4 * y.1.toNat + 8 * y.2.toNat
theorem lot_lt (x y : B2) : lotN x y < 16 := by
  obtain ⟨a, b⟩ := x
  obtain ⟨c, d⟩ := y
  cases a <;> cases b <;> cases c <;> cases d <;> decide
theorem bit_num (f : B2 → B2 → Bool) (x y : B2) : bitI (num f) (lotN x y) = f x y := by
  have key : ∀ (i : Nat) (h : i < (ins.map fun p => f p.1 p.2).length), bitI (num f) i = (ins.map fun p => f p.1 p.2)[i] := fun i h => bit_of _ i h
  obtain ⟨a, b⟩ := x
  obtain ⟨c, d⟩ := y
  cases a <;> cases b <;> cases c <;> cases d
  · exact key 0 (by rw [List.length_map]; decide)
  · exact key 8 (by rw [List.length_map]; decide)
  · exact key 4 (by rw [List.length_map]; decide)
  · exact key 12 (by rw [List.length_map]; decide)
  · exact key 2 (by rw [List.length_map]; decide)
  · exact key 10 (by rw [List.length_map]; decide)
  · exact key 6 (by rw [List.length_map]; decide)
  · exact key 14 (by rw [List.length_map]; decide)
  · exact key 1 (by rw [List.length_map]; decide)
  · exact key 9 (by rw [List.length_map]; decide)
  · exact key 5 (by rw [List.length_map]; decide)
  · exact key 13 (by rw [List.length_map]; decide)
  · exact key 3 (by rw [List.length_map]; decide)
  · exact key 11 (by rw [List.length_map]; decide)
  · exact key 7 (by rw [List.length_map]; decide)
  · exact key 15 (by rw [List.length_map]; decide)
theorem num_nat (f : B2 → B2 → Bool) : 0 ≤ num f ∧ num f < 65536 := by
  have key : ∀ bs : List Bool, 0 ≤ ofBits bs ∧ ofBits bs < 2 ^ bs.length := by
    intro bs
    induction bs with
    | nil => exact ⟨Int.le_refl _, by decide⟩
    | cons b bs ih =>
      obtain ⟨h1, h2⟩ := ih
      show 0 ≤ (if b = true then 1 else 0) + 2 * ofBits bs ∧ (if b = true then 1 else 0) + 2 * ofBits bs < 2 ^ (bs.length + 1)
      rw [Int.pow_succ]
      cases b
      · rw [if_neg Bool.false_ne_true]; omega
      · rw [if_pos rfl]; omega
  have h := key (ins.map fun p => f p.1 p.2)
  have e : (ins.map fun p => f p.1 p.2).length = 16 := by rw [List.length_map]; rfl
  rw [e] at h
  have e2 : (2 : Int) ^ 16 = 65536 := by decide
  rw [e2] at h
  exact h
theorem num_inj {f g : B2 → B2 → Bool} (h : num f = num g) : f = g := by
  funext x y
  rw [← bit_num f x y, h, bit_num]
/-- a sign -/
def n0 (s : Sg.S) : Int := num fun x y => (s.L x y).1
def n1 (s : Sg.S) : Int := num fun x y => (s.L x y).2
def n2 (s : Sg.S) : Int := num fun x y => (s.R x y).1
def n3 (s : Sg.S) : Int := num fun x y => (s.R x y).2
def sgD (s : Sg.S) : D := .tup [.int (n0 s), .int (n1 s), .int (n2 s), .int (n3 s)]
theorem sgD_inj {s t : Sg.S} (h : sgD s = sgD t) : s = t := by
  unfold sgD at h
  simp only [D.tup.injEq, List.cons.injEq, D.int.injEq, and_true] at h
  obtain ⟨h0, h1, h2, h3⟩ := h
  refine Sg.S.ext' ?_ ?_
  · funext x y
    exact Prod.ext (congrFun (congrFun (num_inj h0) x) y) (congrFun (congrFun (num_inj h1) x) y)
  · funext x y
    exact Prod.ext (congrFun (congrFun (num_inj h2) x) y) (congrFun (congrFun (num_inj h3) x) y)
theorem figs (i : Nat) (h : i < 16) : ixG K_FIGURES (.int (i : Nat)) = some (.int (2 ^ i)) ∧ ((2 : Int) ^ i).natAbs.log2 < 9000 ∧ (0 : Int) < 2 ^ i := by
  have : i = 0 ∨ i = 1 ∨ i = 2 ∨ i = 3 ∨ i = 4 ∨ i = 5 ∨ i = 6 ∨ i = 7 ∨ i = 8 ∨ i = 9 ∨ i = 10 ∨ i = 11 ∨ i = 12 ∨ i = 13 ∨ i = 14 ∨ i = 15 := by omega
  rcases this with h | h | h | h | h | h | h | h | h | h | h | h | h | h | h | h <;> subst h <;> exact ⟨rfl, by decide, by decide⟩
theorem figure_ok (n : Int) (i : Nat) (h : i < 16) : F_figure [.int n, .int (i : Nat)] = .ok (.bl (bitI n i)) := by
  obtain ⟨h1, h2, h3⟩ := figs i h
  have h4 : i < 9000 := by omega
  simp [F_figure, m_figure, Mir.seqM, Mir.retM, Mir.retNM, Mir.drpM, Mir.asgM, Mir.ifM, Mir.toS, Mir.namG, Mir.tupG, Mir.allG, Mir.lsuG, Mir.varM, Mir.conM, Mir.op2M, Mir.op1M, Mir.tstM, Mir.andM, Mir.orM, Mir.notM, Mir.andT, Mir.orT, Mir.notT, Mir.iteM, Mir.chM, Mir.biM, Mir.isM, Mir.callM, Mir.callC, Mir.callN, Mir.argsM, Mir.O.bind, Mir.rd, Mir.rds, Mir.pures, Mir.tupM, Mir.lstM, Mir.nlsM, Mir.slM, Mir.noP, Mir.someP, Mir.slG, Mir.lcM, Mir.nlcM, Mir.wipeE, Mir.seqI, Mir.rng1I, Mir.rng2I, Mir.zpBI, Mir.seqU, Mir.strI, Mir.forM, Mir.setM, Mir.setC, Mir.parsM, Mir.setUs, Mir.meM, Mir.joinG, Mir.splG, Mir.lenG, Mir.intG, Mir.strG, Mir.listG, Mir.tupleG, Mir.isdic, Mir.isE, Mir.addG, Mir.subG, Mir.mulG, Mir.mulOk, Mir.fdivG, Mir.modG, Mir.powG, Mir.negG, Mir.ltG, Mir.leG, Mir.gtG, Mir.geG, Mir.isG, Mir.isNotG, Mir.isNon, Mir.env0, Mir.ins1, Mir.run0, Mir.run1, Mir.runN, Mir.frz, Mir.nxtM, Mir.unM, Mir.appM, Mir.isLst, Mir.kmIx, Mir.kmIn, Mir.scpM, Mir.lowU, h1, h2, h3, h4, eqG_int, bitI]
theorem fig_ok (f : B2 → B2 → Bool) (x y : B2) : F_figure [.int (num f), .int (lotN x y : Nat)] = .ok (.bl (f x y)) := by
  rw [figure_ok _ _ (lot_lt x y), bit_num]
def bD (x : B2) : D := .tup [.bl x.1, .bl x.2]
def b4D (x y : B2) : D := .tup [.bl x.1, .bl x.2, .bl y.1, .bl y.2]
theorem lot_ok (x y : B2) : F_lot [b4D x y] = .ok (.int (lotN x y : Nat)) := by
  obtain ⟨a, b⟩ := x
  obtain ⟨c, d⟩ := y
  cases a <;> cases b <;> cases c <;> cases d <;> exact isOk_eq (by decide +kernel)
def isBs (r : R) (bs : List Bool) : Bool := match r with
  | .ok (.tup ds) => blsOf ds == some bs
  | _ => false
theorem bls_map : ∀ {ds : List D} {bs : List Bool}, blsOf ds = some bs → ds = bs.map .bl
  | [], bs, h => by simp [blsOf] at h; subst h; rfl
  | d :: ds, bs, h => by
    cases d with
    | bl b =>
      simp only [blsOf, Option.map_eq_some_iff] at h
      obtain ⟨cs, h1, rfl⟩ := h
      rw [bls_map h1]; rfl
    | _ => simp [blsOf] at h
theorem isBs_eq {r : R} {bs : List Bool} (h : isBs r bs = true) : r = .ok (.tup (bs.map .bl)) := by
  unfold isBs at h
  split at h
  · rw [bls_map (beq_iff_eq.mp h)]
  · cases h
theorem truths_ok (x y : B2) : F_truths_of [.int (lotN x y : Nat)] = .ok (b4D x y) := by
  obtain ⟨a, b⟩ := x
  obtain ⟨c, d⟩ := y
  have h : isBs (F_truths_of [.int (lotN (a, b) (c, d) : Nat)]) [a, b, c, d] = true := by
    cases a <;> cases b <;> cases c <;> cases d <;> decide +kernel
  exact isBs_eq h
theorem ne_nb (x : B2) : neG .non (bD x) = some (.bl true) := rfl
theorem ne_bb (x y : B2) : neG (bD x) (bD y) = some (.bl (!(x == y))) := by
  obtain ⟨a, b⟩ := x
  obtain ⟨c, d⟩ := y
  cases a <;> cases b <;> cases c <;> cases d <;> rfl

/-! ### the inner doors, by the program -/
theorem wh_fx {tc : MT} {f : MS} {S : Sto} {E : D → B2 → D → Mir.Env} {G : B2 → B2} {I : B2 → D} (m : Sg.Mon G) (t0 : ∀ b i, tc (E .non b i) S = .ok true S) (t1 : ∀ a b i, tc (E (bD a) b i) S = .ok (!(a == b)) S)
    (hb : ∀ o b i, f (E o b i) S = .nx (E (bD b) (G b) (I b)) S) (i0 : D) : whM tc f (E .non Sg.bot i0) S = .nx (E (bD (Sg.fx G)) (Sg.fx G) (I (Sg.fx G))) S := by
  have e3 := Sg.fx_fix m
  have key : whN tc f 5 (E .non Sg.bot i0) S = .nx (E (bD (Sg.fx G)) (Sg.fx G) (I (Sg.fx G))) S := by
    unfold Sg.fx at e3 ⊢
    by_cases h1 : Sg.bot = G Sg.bot
    · have h2 : G (G Sg.bot) = Sg.bot := by rw [← h1, ← h1]
      have hq : (Sg.bot == G Sg.bot) = true := beq_iff_eq.mpr h1
      simp only [whN, t0, t1, hb, hq, Bool.not_true, h2]
      rw [← h1]
    · have hq : (Sg.bot == G Sg.bot) = false := beq_eq_false_iff_ne.mpr h1
      by_cases h2 : G Sg.bot = G (G Sg.bot)
      · have hq2 : (G Sg.bot == G (G Sg.bot)) = true := beq_iff_eq.mpr h2
        simp only [whN, t0, t1, hb, hq, hq2, Bool.not_true, Bool.not_false]
        rw [← h2]
      · have hq2 : (G Sg.bot == G (G Sg.bot)) = false := beq_eq_false_iff_ne.mpr h2
        have hq3 : (G (G Sg.bot) == G (G (G Sg.bot))) = true := beq_iff_eq.mpr e3.symm
        simp only [whN, t0, t1, hb, hq, hq2, hq3, Bool.not_true, Bool.not_false]
        rw [e3]
  rw [whM_eq (n := 5) (by rw [key]; exact fun z => by cases z), key]
section
variable (s : Sg.S) (x y : B2)
theorem fig0 : F_figure [.int (n0 s), .int (lotN x y : Nat)] = .ok (.bl (s.L x y).1) := fig_ok _ x y
theorem fig1 : F_figure [.int (n1 s), .int (lotN x y : Nat)] = .ok (.bl (s.L x y).2) := fig_ok _ x y
theorem fig2 : F_figure [.int (n2 s), .int (lotN x y : Nat)] = .ok (.bl (s.R x y).1) := fig_ok _ x y
theorem fig3 : F_figure [.int (n3 s), .int (lotN x y : Nat)] = .ok (.bl (s.R x y).2) := fig_ok _ x y
theorem lot4 : F_lot [.tup [.bl x.1, .bl x.2, .bl y.1, .bl y.2]] = .ok (.int (lotN x y : Nat)) := lot_ok x y
theorem ixs : ixG (sgD s) (.int 0) = some (.int (n0 s)) ∧ ixG (sgD s) (.int 1) = some (.int (n1 s)) ∧ ixG (sgD s) (.int 2) = some (.int (n2 s)) ∧ ixG (sgD s) (.int 3) = some (.int (n3 s)) := ⟨rfl, rfl, rfl, rfl⟩
theorem sl_hi : slG (b4D x y) (some 2) none = some (bD y) := rfl
theorem sl_lo : slG (b4D x y) none (some 2) = some (bD x) := rfl
theorem add_bb : addG (bD x) (bD y) = some (.tup [.bl x.1, .bl x.2, .bl y.1, .bl y.2]) := rfl
end
def loopB : MS := (seqM (asgM (varM 6) (namG 7))
    (seqM (asgM (biM tupleG [(lcM (seqI (tupM [(conM (.int 0)), (conM (.int 1))])) (.one 10) yesM (callM F_figure [(op2M ixG (varM 1) (varM 10)), (callM F_lot [(op2M addG (varM 6) (slM (varM 4) (someP (conM (.int 2))) noP))])]) [10])]) (namG 5))
    (asgM (biM tupleG [(lcM (seqI (tupM [(conM (.int 2)), (conM (.int 3))])) (.one 10) yesM (callM F_figure [(op2M ixG (varM 0) (varM 10)), (callM F_lot [(op2M addG (slM (varM 4) noP (someP (conM (.int 2)))) (varM 5))])]) [10])]) (namG 6))))
def envJ (s t : Sg.S) (nums : D) (N : Int) (x y : B2) (x8 x9 x10 : Option U) (o : D) (b : B2) (i : D) : Mir.Env :=
  [some (.d (sgD s)), some (.d (sgD t)), some (.d nums), some (.d (.int N)), some (.d (b4D x y)), some (.d i), some (.d (bD b)), some (.d o), x8, x9, x10]
theorem loopB_ok (s t : Sg.S) (nums : D) (N : Int) (x y : B2) (x8 x9 x10 : Option U) (o : D) (b : B2) (i : D) :
    loopB (envJ s t nums N x y x8 x9 x10 o b i) [] = .nx (envJ s t nums N x y x8 x9 x10 (bD b) (s.R x (t.L b y)) (bD (t.L b y))) [] := by
  obtain ⟨i0, i1, i2, i3⟩ := ixs s
  obtain ⟨j0, j1, j2, j3⟩ := ixs t
  have a1 : addG (bD b) (bD y) = some (.tup [.bl b.1, .bl b.2, .bl y.1, .bl y.2]) := rfl
  have a2 : addG (bD x) (.tup [.bl (t.L b y).1, .bl (t.L b y).2]) = some (.tup [.bl x.1, .bl x.2, .bl (t.L b y).1, .bl (t.L b y).2]) := rfl
  simp [loopB, envJ, Mir.seqM, Mir.retM, Mir.retNM, Mir.drpM, Mir.asgM, Mir.ifM, Mir.toS, Mir.namG, Mir.tupG, Mir.allG, Mir.lsuG, Mir.varM, Mir.conM, Mir.op2M, Mir.op1M, Mir.tstM, Mir.andM, Mir.orM, Mir.notM, Mir.andT, Mir.orT, Mir.notT, Mir.iteM, Mir.chM, Mir.biM, Mir.isM, Mir.callM, Mir.callC, Mir.callN, Mir.argsM, Mir.O.bind, Mir.rd, Mir.rds, Mir.pures, Mir.tupM, Mir.lstM, Mir.nlsM, Mir.slM, Mir.noP, Mir.someP, Mir.lcM, Mir.nlcM, Mir.wipeE, Mir.seqI, Mir.rng1I, Mir.rng2I, Mir.zpBI, Mir.seqU, Mir.strI, Mir.forM, Mir.setM, Mir.setC, Mir.parsM, Mir.setUs, Mir.meM, Mir.joinG, Mir.splG, Mir.lenG, Mir.intG, Mir.strG, Mir.listG, Mir.tupleG, Mir.isdic, Mir.isE, Mir.subG, Mir.mulG, Mir.mulOk, Mir.fdivG, Mir.modG, Mir.powG, Mir.negG, Mir.ltG, Mir.leG, Mir.gtG, Mir.geG, Mir.isG, Mir.isNotG, Mir.isNon, Mir.env0, Mir.ins1, Mir.run0, Mir.run1, Mir.runN, Mir.frz, Mir.nxtM, Mir.unM, Mir.appM, Mir.isLst, Mir.kmIx, Mir.kmIn, Mir.scpM, Mir.lowU, lcL, setT, yesM, j0, j1, i2, i3, sl_hi, sl_lo, a1, a2, lot4, fig0, fig1, fig2, fig3, big]
  exact ⟨rfl, rfl⟩

/-! ### the lots, one after the other -/
def upB : MS := (seqM (asgM (lstM [(callM F_figure [(op2M ixG (varM 0) (conM (.int 0))), (callM F_lot [(op2M addG (slM (varM 4) noP (someP (conM (.int 2)))) (varM 5))])]), (callM F_figure [(op2M ixG (varM 0) (conM (.int 1))), (callM F_lot [(op2M addG (slM (varM 4) noP (someP (conM (.int 2)))) (varM 5))])]), (callM F_figure [(op2M ixG (varM 1) (conM (.int 2))), (callM F_lot [(op2M addG (varM 6) (slM (varM 4) (someP (conM (.int 2))) noP))])]), (callM F_figure [(op2M ixG (varM 1) (conM (.int 3))), (callM F_lot [(op2M addG (varM 6) (slM (varM 4) (someP (conM (.int 2))) noP))])])]) (namG 8))
    (asgM (lcM (zpBI (varM 2) (varM 8)) (.many [7, 9]) yesM (op2M addG (varM 7) (iteM (tstM (varM 9)) (op2M ixG (conM K_FIGURES) (varM 3)) (conM (.int 0)))) [7, 9]) (namG 2)))
noncomputable def lotB : MS := (seqM (asgM (callM F_truths_of [(varM 3)]) (namG 4))
    (seqM (parsM [5, 6, 7] [(tupM [(conM (.bl false)), (conM (.bl false))]), (tupM [(conM (.bl false)), (conM (.bl false))]), (conM .non)])
    (seqM (whM (tstM (op2M neG (varM 7) (varM 6))) loopB)
    upB)))
theorem m_joined_eq : m_joined_of = (seqM (asgM (lstM [(conM (.int 0)), (conM (.int 0)), (conM (.int 0)), (conM (.int 0))]) (namG 2))
    (seqM (forM (seqI (conM K_LOTS)) (namG 3) lotB)
    (retM (biM tupleG [(varM 2)])))) := rfl
def wt (b : Bool) (n : Nat) : Int := if b = true then 2 ^ n else 0
def nums4 (a b c d : Int) : D := .lst [.int a, .int b, .int c, .int d]
theorem upB_ok (s t : Sg.S) (a0 a1 a2 a3 : Int) (x y b : B2) (x8 x9 x10 : Option U) (o : D) :
    upB (envJ s t (nums4 a0 a1 a2 a3) (lotN x y : Nat) x y x8 x9 x10 o b (bD (t.L b y))) [] = .nx (envJ s t (nums4 (a0 + wt (s.L x (t.L b y)).1 (lotN x y)) (a1 + wt (s.L x (t.L b y)).2 (lotN x y)) (a2 + wt (t.R b y).1 (lotN x y)) (a3 + wt (t.R b y).2 (lotN x y))) (lotN x y : Nat) x y (some (.d (.lst [.bl (s.L x (t.L b y)).1, .bl (s.L x (t.L b y)).2, .bl (t.R b y).1, .bl (t.R b y).2]))) x9 x10 o b (bD (t.L b y))) [] := by
  obtain ⟨i0, i1, i2, i3⟩ := ixs s
  obtain ⟨j0, j1, j2, j3⟩ := ixs t
  obtain ⟨f1, _, _⟩ := figs (lotN x y) (lot_lt x y)
  have a1 : addG (bD b) (bD y) = some (.tup [.bl b.1, .bl b.2, .bl y.1, .bl y.2]) := rfl
  have a2 : addG (bD x) (bD (t.L b y)) = some (.tup [.bl x.1, .bl x.2, .bl (t.L b y).1, .bl (t.L b y).2]) := rfl
  have ad : ∀ p q : Int, addG (.int p) (.int q) = some (.int (p + q)) := fun _ _ => rfl
  unfold upB envJ nums4
  generalize hl : lotN x y = n at *
  simp [Mir.seqM, Mir.retM, Mir.retNM, Mir.drpM, Mir.asgM, Mir.ifM, Mir.toS, Mir.namG, Mir.tupG, Mir.allG, Mir.lsuG, Mir.varM, Mir.conM, Mir.op2M, Mir.op1M, Mir.tstM, Mir.andM, Mir.orM, Mir.notM, Mir.andT, Mir.orT, Mir.notT, Mir.iteM, Mir.chM, Mir.biM, Mir.isM, Mir.callM, Mir.callC, Mir.callN, Mir.argsM, Mir.O.bind, Mir.rd, Mir.rds, Mir.pures, Mir.tupM, Mir.lstM, Mir.nlsM, Mir.slM, Mir.noP, Mir.someP, Mir.lcM, Mir.nlcM, Mir.wipeE, Mir.seqI, Mir.rng1I, Mir.rng2I, Mir.zpBI, Mir.seqU, Mir.strI, Mir.forM, Mir.setM, Mir.setC, Mir.parsM, Mir.setUs, Mir.meM, Mir.joinG, Mir.splG, Mir.lenG, Mir.intG, Mir.strG, Mir.listG, Mir.tupleG, Mir.isdic, Mir.isE, Mir.subG, Mir.mulG, Mir.mulOk, Mir.fdivG, Mir.modG, Mir.powG, Mir.negG, Mir.ltG, Mir.leG, Mir.gtG, Mir.geG, Mir.isG, Mir.isNotG, Mir.isNon, Mir.env0, Mir.ins1, Mir.run0, Mir.run1, Mir.runN, Mir.frz, Mir.nxtM, Mir.unM, Mir.appM, Mir.isLst, Mir.kmIx, Mir.kmIn, Mir.scpM, Mir.lowU, lcL, setT, setMany, yesM, i0, i1, j2, j3, sl_hi, sl_lo, a1, a2, lot4, fig0, fig1, fig2, fig3, big, f1, ad, pairs, hl]
  generalize (s.L x (t.L b y)).1 = c0
  generalize (s.L x (t.L b y)).2 = c1
  generalize (t.R b y).1 = c2
  generalize (t.R b y).2 = c3
  cases c0 <;> cases c1 <;> cases c2 <;> cases c3 <;> simp [wt, f1, ad]
/-- one lot of doors -/
theorem lotB_ok {s t : Sg.S} (hs : s.Mon) (ht : t.Mon) (a0 a1 a2 a3 : Int) (x y : B2) (x4 x5 x6 x7 x8 x9 x10 : Option U) :
    ∃ y4 y5 y6 y7 y8 y9 y10 : Option U, lotB [some (.d (sgD s)), some (.d (sgD t)), some (.d (nums4 a0 a1 a2 a3)), some (.d (.int (lotN x y : Nat))), x4, x5, x6, x7, x8, x9, x10] [] =
      .nx [some (.d (sgD s)), some (.d (sgD t)), some (.d (nums4 (a0 + wt ((Sg.join s t).L x y).1 (lotN x y)) (a1 + wt ((Sg.join s t).L x y).2 (lotN x y)) (a2 + wt ((Sg.join s t).R x y).1 (lotN x y)) (a3 + wt ((Sg.join s t).R x y).2 (lotN x y)))), some (.d (.int (lotN x y : Nat))), y4, y5, y6, y7, y8, y9, y10] [] := by
  have hw := wh_fx (tc := tstM (op2M neG (varM 7) (varM 6))) (f := loopB) (S := []) (E := fun o b i => envJ s t (nums4 a0 a1 a2 a3) (lotN x y : Nat) x y x8 x9 x10 o b i) (I := fun b => bD (t.L b y)) (Sg.mid_mon hs ht x y)
    (fun b i => by simp [envJ, Mir.seqM, Mir.retM, Mir.retNM, Mir.drpM, Mir.asgM, Mir.ifM, Mir.toS, Mir.namG, Mir.tupG, Mir.allG, Mir.lsuG, Mir.varM, Mir.conM, Mir.op2M, Mir.op1M, Mir.tstM, Mir.andM, Mir.orM, Mir.notM, Mir.andT, Mir.orT, Mir.notT, Mir.iteM, Mir.chM, Mir.biM, Mir.isM, Mir.callM, Mir.callC, Mir.callN, Mir.argsM, Mir.O.bind, Mir.rd, Mir.rds, Mir.pures, Mir.tupM, Mir.lstM, Mir.nlsM, Mir.slM, Mir.noP, Mir.someP, Mir.slG, Mir.lcM, Mir.nlcM, Mir.wipeE, Mir.seqI, Mir.rng1I, Mir.rng2I, Mir.zpBI, Mir.seqU, Mir.strI, Mir.forM, Mir.setM, Mir.setC, Mir.parsM, Mir.setUs, Mir.meM, Mir.joinG, Mir.splG, Mir.lenG, Mir.intG, Mir.strG, Mir.listG, Mir.tupleG, Mir.isdic, Mir.isE, Mir.ixG, Mir.addG, Mir.subG, Mir.mulG, Mir.mulOk, Mir.fdivG, Mir.modG, Mir.powG, Mir.negG, Mir.ltG, Mir.leG, Mir.gtG, Mir.geG, Mir.isG, Mir.isNotG, Mir.isNon, Mir.env0, Mir.ins1, Mir.run0, Mir.run1, Mir.runN, Mir.frz, Mir.nxtM, Mir.unM, Mir.appM, Mir.isLst, Mir.kmIx, Mir.kmIn, Mir.scpM, Mir.lowU, ne_nb]) (fun a b i => by simp [envJ, Mir.seqM, Mir.retM, Mir.retNM, Mir.drpM, Mir.asgM, Mir.ifM, Mir.toS, Mir.namG, Mir.tupG, Mir.allG, Mir.lsuG, Mir.varM, Mir.conM, Mir.op2M, Mir.op1M, Mir.tstM, Mir.andM, Mir.orM, Mir.notM, Mir.andT, Mir.orT, Mir.notT, Mir.iteM, Mir.chM, Mir.biM, Mir.isM, Mir.callM, Mir.callC, Mir.callN, Mir.argsM, Mir.O.bind, Mir.rd, Mir.rds, Mir.pures, Mir.tupM, Mir.lstM, Mir.nlsM, Mir.slM, Mir.noP, Mir.someP, Mir.slG, Mir.lcM, Mir.nlcM, Mir.wipeE, Mir.seqI, Mir.rng1I, Mir.rng2I, Mir.zpBI, Mir.seqU, Mir.strI, Mir.forM, Mir.setM, Mir.setC, Mir.parsM, Mir.setUs, Mir.meM, Mir.joinG, Mir.splG, Mir.lenG, Mir.intG, Mir.strG, Mir.listG, Mir.tupleG, Mir.isdic, Mir.isE, Mir.ixG, Mir.addG, Mir.subG, Mir.mulG, Mir.mulOk, Mir.fdivG, Mir.modG, Mir.powG, Mir.negG, Mir.ltG, Mir.leG, Mir.gtG, Mir.geG, Mir.isG, Mir.isNotG, Mir.isNon, Mir.env0, Mir.ins1, Mir.run0, Mir.run1, Mir.runN, Mir.frz, Mir.nxtM, Mir.unM, Mir.appM, Mir.isLst, Mir.kmIx, Mir.kmIn, Mir.scpM, Mir.lowU, ne_bb]) (fun o b i => loopB_ok s t _ _ x y x8 x9 x10 o b i) (bD Sg.bot)
  have hu := upB_ok s t a0 a1 a2 a3 x y (Sg.bk s t x y) x8 x9 x10 (bD (Sg.bk s t x y))
  have hn := truths_ok x y
  unfold envJ at hw hu
  have e0 : D.tup [.bl false, .bl false] = bD Sg.bot := rfl
  have e1 : Sg.fx (Sg.mid s t x y) = Sg.bk s t x y := rfl
  rw [e1] at hw
  refine ⟨some (.d (b4D x y)), some (.d (bD (t.L (Sg.bk s t x y) y))), some (.d (bD (Sg.bk s t x y))), some (.d (bD (Sg.bk s t x y))), _, x9, x10, Eq.trans ?_ hu⟩
  simp [lotB, Mir.seqM, Mir.retM, Mir.retNM, Mir.drpM, Mir.asgM, Mir.ifM, Mir.toS, Mir.namG, Mir.tupG, Mir.allG, Mir.lsuG, Mir.varM, Mir.conM, Mir.op2M, Mir.op1M, Mir.tstM, Mir.andM, Mir.orM, Mir.notM, Mir.andT, Mir.orT, Mir.notT, Mir.iteM, Mir.chM, Mir.biM, Mir.isM, Mir.callM, Mir.callC, Mir.callN, Mir.argsM, Mir.O.bind, Mir.rd, Mir.rds, Mir.pures, Mir.tupM, Mir.lstM, Mir.nlsM, Mir.slM, Mir.noP, Mir.someP, Mir.slG, Mir.lcM, Mir.nlcM, Mir.wipeE, Mir.seqI, Mir.rng1I, Mir.rng2I, Mir.zpBI, Mir.seqU, Mir.strI, Mir.forM, Mir.setM, Mir.setC, Mir.parsM, Mir.setUs, Mir.meM, Mir.joinG, Mir.splG, Mir.lenG, Mir.intG, Mir.strG, Mir.listG, Mir.tupleG, Mir.isdic, Mir.isE, Mir.ixG, Mir.addG, Mir.subG, Mir.mulG, Mir.mulOk, Mir.fdivG, Mir.modG, Mir.powG, Mir.negG, Mir.ltG, Mir.leG, Mir.gtG, Mir.geG, Mir.isG, Mir.isNotG, Mir.isNon, Mir.env0, Mir.ins1, Mir.run0, Mir.run1, Mir.runN, Mir.frz, Mir.nxtM, Mir.unM, Mir.appM, Mir.isLst, Mir.kmIx, Mir.kmIn, Mir.scpM, Mir.lowU, hn, e0, hw]
/-! ### all sixteen -/
abbrev I4 := Int × Int × Int × Int
def stepJ (j : Sg.S) (a : I4) (p : B2 × B2) : I4 :=
  (a.1 + wt (j.L p.1 p.2).1 (lotN p.1 p.2), a.2.1 + wt (j.L p.1 p.2).2 (lotN p.1 p.2), a.2.2.1 + wt (j.R p.1 p.2).1 (lotN p.1 p.2), a.2.2.2 + wt (j.R p.1 p.2).2 (lotN p.1 p.2))
theorem lots_ins : [.int 0, .int 1, .int 2, .int 3, .int 4, .int 5, .int 6, .int 7, .int 8, .int 9, .int 10, .int 11, .int 12, .int 13, .int 14, .int 15] = ins.map fun p => D.int (lotN p.1 p.2 : Nat) := rfl
theorem lots_ok {s t : Sg.S} (hs : s.Mon) (ht : t.Mon) : ∀ (ps : List (B2 × B2)) (a : I4) (x3 x4 x5 x6 x7 x8 x9 x10 : Option U),
    ∃ y3 y4 y5 y6 y7 y8 y9 y10 : Option U, forL (namG 3) lotB (ps.map fun p => D.int (lotN p.1 p.2 : Nat)) [some (.d (sgD s)), some (.d (sgD t)), some (.d (nums4 a.1 a.2.1 a.2.2.1 a.2.2.2)), x3, x4, x5, x6, x7, x8, x9, x10] [] =
      .nx [some (.d (sgD s)), some (.d (sgD t)), some (.d (nums4 (ps.foldl (stepJ (Sg.join s t)) a).1 (ps.foldl (stepJ (Sg.join s t)) a).2.1 (ps.foldl (stepJ (Sg.join s t)) a).2.2.1 (ps.foldl (stepJ (Sg.join s t)) a).2.2.2)), y3, y4, y5, y6, y7, y8, y9, y10] []
  | [], a, x3, x4, x5, x6, x7, x8, x9, x10 => ⟨x3, x4, x5, x6, x7, x8, x9, x10, rfl⟩
  | p :: ps, a, x3, x4, x5, x6, x7, x8, x9, x10 => by
    obtain ⟨y4, y5, y6, y7, y8, y9, y10, h1⟩ := lotB_ok hs ht a.1 a.2.1 a.2.2.1 a.2.2.2 p.1 p.2 x4 x5 x6 x7 x8 x9 x10
    obtain ⟨z3, z4, z5, z6, z7, z8, z9, z10, h2⟩ := lots_ok hs ht ps (stepJ (Sg.join s t) a p) (some (.d (.int (lotN p.1 p.2 : Nat)))) y4 y5 y6 y7 y8 y9 y10
    refine ⟨z3, z4, z5, z6, z7, z8, z9, z10, ?_⟩
    have hg : namG 3 (.d (D.int (lotN p.1 p.2 : Nat))) [some (.d (sgD s)), some (.d (sgD t)), some (.d (nums4 a.1 a.2.1 a.2.2.1 a.2.2.2)), x3, x4, x5, x6, x7, x8, x9, x10] [] = some ([some (.d (sgD s)), some (.d (sgD t)), some (.d (nums4 a.1 a.2.1 a.2.2.1 a.2.2.2)), some (.d (.int (lotN p.1 p.2 : Nat))), x4, x5, x6, x7, x8, x9, x10], []) := rfl
    simp only [List.map_cons, forL, hg, h1]
    exact h2
theorem wt_mul (b : Bool) (n : Nat) : wt b n = (if b = true then 1 else 0) * 2 ^ n := by
  cases b <;> simp [wt]
theorem sum_num (f : B2 → B2 → Bool) : ins.foldl (fun a p => a + wt (f p.1 p.2) (lotN p.1 p.2)) 0 = num f := by
  simp only [ins, List.foldl_cons, List.foldl_nil, num, List.map_cons, List.map_nil, ofBits, wt_mul, lotN, Bool.toNat_false, Bool.toNat_true]
  omega
theorem fold4 (j : Sg.S) : ∀ (ps : List (B2 × B2)) (a : I4), ps.foldl (stepJ j) a =
    (ps.foldl (fun a p => a + wt (j.L p.1 p.2).1 (lotN p.1 p.2)) a.1, ps.foldl (fun a p => a + wt (j.L p.1 p.2).2 (lotN p.1 p.2)) a.2.1, ps.foldl (fun a p => a + wt (j.R p.1 p.2).1 (lotN p.1 p.2)) a.2.2.1, ps.foldl (fun a p => a + wt (j.R p.1 p.2).2 (lotN p.1 p.2)) a.2.2.2)
  | [], a => rfl
  | p :: ps, a => by
    rw [List.foldl_cons, fold4 j ps]
    rfl
theorem fold_sg (j : Sg.S) : ins.foldl (stepJ j) (0, 0, 0, 0) = (n0 j, n1 j, n2 j, n3 j) := by
  rw [fold4]
  have h0 := sum_num fun x y => (j.L x y).1
  have h1 := sum_num fun x y => (j.L x y).2
  have h2 := sum_num fun x y => (j.R x y).1
  have h3 := sum_num fun x y => (j.R x y).2
  show (_, _, _, _) = _
  rw [h0, h1, h2, h3]
  rfl
theorem joined_ok {s t : Sg.S} (hs : s.Mon) (ht : t.Mon) : F_joined_of [sgD s, sgD t] = .ok (sgD (Sg.join s t)) := by
  obtain ⟨y3, y4, y5, y6, y7, y8, y9, y10, h⟩ := lots_ok hs ht ins (0, 0, 0, 0) none none none none none none none none
  rw [fold_sg] at h
  rw [← lots_ins] at h
  simp only [nums4] at h
  simp [F_joined_of, m_joined_eq, Mir.seqM, Mir.retM, Mir.retNM, Mir.drpM, Mir.asgM, Mir.ifM, Mir.toS, Mir.namG, Mir.tupG, Mir.allG, Mir.lsuG, Mir.varM, Mir.conM, Mir.op2M, Mir.op1M, Mir.tstM, Mir.andM, Mir.orM, Mir.notM, Mir.andT, Mir.orT, Mir.notT, Mir.iteM, Mir.chM, Mir.biM, Mir.isM, Mir.callM, Mir.callC, Mir.callN, Mir.argsM, Mir.O.bind, Mir.rd, Mir.rds, Mir.pures, Mir.tupM, Mir.lstM, Mir.nlsM, Mir.slM, Mir.noP, Mir.someP, Mir.slG, Mir.lcM, Mir.nlcM, Mir.wipeE, Mir.seqI, Mir.rng1I, Mir.rng2I, Mir.zpBI, Mir.seqU, Mir.strI, Mir.forM, Mir.setM, Mir.setC, Mir.parsM, Mir.setUs, Mir.meM, Mir.joinG, Mir.splG, Mir.lenG, Mir.intG, Mir.strG, Mir.listG, Mir.tupleG, Mir.isdic, Mir.isE, Mir.ixG, Mir.addG, Mir.subG, Mir.mulG, Mir.mulOk, Mir.fdivG, Mir.modG, Mir.powG, Mir.negG, Mir.ltG, Mir.leG, Mir.gtG, Mir.geG, Mir.isG, Mir.isNotG, Mir.isNon, Mir.env0, Mir.ins1, Mir.run0, Mir.run1, Mir.runN, Mir.frz, Mir.nxtM, Mir.unM, Mir.appM, Mir.isLst, Mir.kmIx, Mir.kmIn, Mir.scpM, Mir.lowU, K_LOTS, h]
  rfl

/-! ### the law's own joining -/
theorem wh_climb {X : Type} [BEq X] [LawfulBEq X] {tc : MT} {f : MS} {S : Sto} {E : X → X → Mir.Env} {E0 : Mir.Env} {H : X → X} {p0 : X} (P : X → Prop) (ms : X → Nat) (hP : ∀ p, P p → P (H p) ∧ (H p = p ∨ ms p < ms (H p))) (hm : ∀ p, ms p ≤ 4)
    (h0 : tc E0 S = .ok true S) (f0 : f E0 S = .nx (E p0 (H p0)) S) (ht : ∀ p c, tc (E p c) S = .ok (!(p == c)) S) (hf : ∀ p c, f (E p c) S = .nx (E c (H c)) S) (hp0 : P p0) : ∃ q, P q ∧ H q = q ∧ whM tc f E0 S = .nx (E q q) S := by
  have key : ∀ n p, P p → 4 < ms p + n → ∃ q, P q ∧ H q = q ∧ whN tc f (n + 1) (E p (H p)) S = .nx (E q q) S := by
    intro n
    induction n with
    | zero => intro p _ h; have := hm p; omega
    | succ n ih =>
      intro p hp h
      obtain ⟨h1, h2⟩ := hP p hp
      by_cases e : p = H p
      · refine ⟨p, hp, e.symm, ?_⟩
        have hq : (p == H p) = true := beq_iff_eq.mpr e
        rw [whN, ht, hq, ← e]
        rfl
      · have hlt : ms p < ms (H p) := h2.resolve_left fun z => e z.symm
        obtain ⟨q, q1, q2, q3⟩ := ih (H p) h1 (by omega)
        refine ⟨q, q1, q2, ?_⟩
        have hq : (p == H p) = false := beq_eq_false_iff_ne.mpr e
        rw [whN, ht, hq]
        simp only [Bool.not_false, hf]
        exact q3
  obtain ⟨q, q1, q2, q3⟩ := key 5 p0 hp0 (by omega)
  refine ⟨q, q1, q2, ?_⟩
  have : whN tc f 7 E0 S = .nx (E q q) S := by
    rw [whN, h0]
    simp only [f0]
    exact q3
  rw [whM_eq (n := 7) (by rw [this]; exact fun z => by cases z), this]
abbrev X2 := B2 × B2
def le2 (p q : X2) : Prop := Sg.le p.1 q.1 ∧ Sg.le p.2 q.2
def ms2 (p : X2) : Nat := p.1.1.toNat + p.1.2.toNat + p.2.1.toNat + p.2.2.toNat
theorem ms2_le (p : X2) : ms2 p ≤ 4 := by
  obtain ⟨⟨a, b⟩, ⟨c, d⟩⟩ := p
  cases a <;> cases b <;> cases c <;> cases d <;> decide
theorem ms2_lt {p q : X2} (h : le2 p q) : q = p ∨ ms2 p < ms2 q := by
  obtain ⟨⟨a, b⟩, ⟨c, d⟩⟩ := p
  obtain ⟨⟨a', b'⟩, ⟨c', d'⟩⟩ := q
  obtain ⟨⟨h1, h2⟩, h3, h4⟩ := h
  cases a <;> cases b <;> cases c <;> cases d <;> cases a' <;> cases b' <;> cases c' <;> cases d' <;> simp_all [ms2]
/-- inner doors, a step: (into the left one's right doors, out of them) -/
def stH (s t : Sg.S) (x y : B2) (p : X2) : X2 := (t.L p.2 y, s.R x p.1)
def PH (s t : Sg.S) (x y : B2) (p : X2) : Prop := le2 p (stH s t x y p) ∧ ∀ z, stH s t x y z = z → le2 p z
theorem PH_step {s t : Sg.S} (hs : s.Mon) (ht : t.Mon) (x y : B2) (p : X2) (h : PH s t x y p) : PH s t x y (stH s t x y p) ∧ (stH s t x y p = p ∨ ms2 p < ms2 (stH s t x y p)) := by
  have mono : ∀ a b, le2 a b → le2 (stH s t x y a) (stH s t x y b) := fun a b h => ⟨ht.l h.2 (Sg.le_refl _), hs.r (Sg.le_refl _) h.1⟩
  exact ⟨⟨mono _ _ h.1, fun z hz => by have := mono _ _ (h.2 z hz); rw [hz] at this; exact this⟩, ms2_lt h.1⟩
theorem PH_end {s t : Sg.S} (hs : s.Mon) (ht : t.Mon) {x y : B2} {q : X2} (h : PH s t x y q) (e : stH s t x y q = q) : q = (t.L (Sg.bk s t x y) y, Sg.bk s t x y) := by
  have e1 : t.L q.2 y = q.1 := congrArg Prod.fst e
  have e2 : s.R x q.1 = q.2 := congrArg Prod.snd e
  obtain ⟨h1, h2⟩ := Sg.both_least hs ht e1 e2 (fun j c a b => by
    exact h.2 (j, c) (by unfold stH; rw [a, b]))
  exact Prod.ext h2 h1
def bI (b : Bool) : D := .int (if b = true then 1 else 0)
def iD (p : X2) : D := .lst [bI p.1.1, bI p.1.2, bI p.2.1, bI p.2.2]
def oD (x y : B2) : D := .lst [bI x.1, bI x.2, bI y.1, bI y.2]
theorem ne_ii (p q : X2) : neG (iD p) (iD q) = some (.bl (!(p == q))) := by
  obtain ⟨⟨a, b⟩, ⟨c, d⟩⟩ := p
  obtain ⟨⟨a', b'⟩, ⟨c', d'⟩⟩ := q
  cases a <;> cases b <;> cases c <;> cases d <;> cases a' <;> cases b' <;> cases c' <;> cases d' <;> rfl
theorem ne_ni (p : X2) : neG .non (iD p) = some (.bl true) := rfl
theorem worth_ok (i : Nat) (h : i < 16) : F__law_worth [.int (i : Nat)] = .ok (.int (2 ^ i)) := by
  have : i = 0 ∨ i = 1 ∨ i = 2 ∨ i = 3 ∨ i = 4 ∨ i = 5 ∨ i = 6 ∨ i = 7 ∨ i = 8 ∨ i = 9 ∨ i = 10 ∨ i = 11 ∨ i = 12 ∨ i = 13 ∨ i = 14 ∨ i = 15 := by omega
  rcases this with h | h | h | h | h | h | h | h | h | h | h | h | h | h | h | h <;> subst h <;> exact isOk_eq (by decide +kernel)
theorem lfigure_ok (n : Int) (i : Nat) (h : i < 16) : F__law_figure [.int n, .int (i : Nat)] = .ok (.bl (bitI n i)) := by
  obtain ⟨h1, h2, h3⟩ := figs i h
  have h4 : i < 9000 := by omega
  have hw := worth_ok i h
  simp [F__law_figure, m__law_figure, Mir.seqM, Mir.retM, Mir.retNM, Mir.drpM, Mir.asgM, Mir.ifM, Mir.toS, Mir.namG, Mir.tupG, Mir.allG, Mir.lsuG, Mir.varM, Mir.conM, Mir.op2M, Mir.op1M, Mir.tstM, Mir.andM, Mir.orM, Mir.notM, Mir.andT, Mir.orT, Mir.notT, Mir.iteM, Mir.chM, Mir.biM, Mir.isM, Mir.callM, Mir.callC, Mir.callN, Mir.argsM, Mir.O.bind, Mir.rd, Mir.rds, Mir.pures, Mir.tupM, Mir.lstM, Mir.nlsM, Mir.slM, Mir.noP, Mir.someP, Mir.slG, Mir.lcM, Mir.nlcM, Mir.wipeE, Mir.seqI, Mir.rng1I, Mir.rng2I, Mir.zpBI, Mir.seqU, Mir.strI, Mir.forM, Mir.setM, Mir.setC, Mir.parsM, Mir.setUs, Mir.meM, Mir.joinG, Mir.splG, Mir.lenG, Mir.intG, Mir.strG, Mir.listG, Mir.tupleG, Mir.isdic, Mir.isE, Mir.addG, Mir.subG, Mir.mulG, Mir.mulOk, Mir.fdivG, Mir.modG, Mir.powG, Mir.negG, Mir.ltG, Mir.leG, Mir.gtG, Mir.geG, Mir.isG, Mir.isNotG, Mir.isNon, Mir.env0, Mir.ins1, Mir.run0, Mir.run1, Mir.runN, Mir.frz, Mir.nxtM, Mir.unM, Mir.appM, Mir.isLst, Mir.kmIx, Mir.kmIn, Mir.scpM, Mir.lowU, hw, h2, h3, h4, eqG_int, bitI]
theorem lfig_ok (f : B2 → B2 → Bool) (x y : B2) : F__law_figure [.int (num f), .int (lotN x y : Nat)] = .ok (.bl (f x y)) := by
  rw [lfigure_ok _ _ (lot_lt x y), bit_num]
section
variable (s : Sg.S) (x y : B2)
theorem lfig0 : F__law_figure [.int (n0 s), .int (lotN x y : Nat)] = .ok (.bl (s.L x y).1) := lfig_ok _ x y
theorem lfig1 : F__law_figure [.int (n1 s), .int (lotN x y : Nat)] = .ok (.bl (s.L x y).2) := lfig_ok _ x y
theorem lfig2 : F__law_figure [.int (n2 s), .int (lotN x y : Nat)] = .ok (.bl (s.R x y).1) := lfig_ok _ x y
theorem lfig3 : F__law_figure [.int (n3 s), .int (lotN x y : Nat)] = .ok (.bl (s.R x y).2) := lfig_ok _ x y
theorem oix : ixG (oD x y) (.int 0) = some (bI x.1) ∧ ixG (oD x y) (.int 1) = some (bI x.2) ∧ ixG (oD x y) (.int 2) = some (bI y.1) ∧ ixG (oD x y) (.int 3) = some (bI y.2) := ⟨rfl, rfl, rfl, rfl⟩
theorem iix (p : X2) : ixG (iD p) (.int 0) = some (bI p.1.1) ∧ ixG (iD p) (.int 1) = some (bI p.1.2) ∧ ixG (iD p) (.int 2) = some (bI p.2.1) ∧ ixG (iD p) (.int 3) = some (bI p.2.2) := ⟨rfl, rfl, rfl, rfl⟩
end
/-- a bit of a lot -/
def tI (k : Int) (b : Bool) : D := .int (k * (if b = true then 1 else 0))
theorem mul_bI (b : Bool) : mulG (.int 2) (bI b) = some (tI 2 b) ∧ mulG (.int 4) (bI b) = some (tI 4 b) ∧ mulG (.int 8) (bI b) = some (tI 8 b) := by
  cases b <;> exact ⟨rfl, rfl, rfl⟩
def s1 (x : B2) : D := .int ((if x.1 = true then 1 else 0) + 2 * (if x.2 = true then 1 else 0))
def s2 (x y : B2) : D := .int ((if x.1 = true then 1 else 0) + 2 * (if x.2 = true then 1 else 0) + 4 * (if y.1 = true then 1 else 0))
theorem add_s1 (x : B2) : addG (bI x.1) (tI 2 x.2) = some (s1 x) := rfl
theorem add_s2 (x y : B2) : addG (s1 x) (tI 4 y.1) = some (s2 x y) := rfl
theorem add_s3 (x y : B2) : addG (s2 x y) (tI 8 y.2) = some (.int (lotN x y : Nat)) := by
  obtain ⟨a, b⟩ := x
  obtain ⟨c, d⟩ := y
  cases a <;> cases b <;> cases c <;> cases d <;> rfl
theorem int_bl (b : Bool) : intG [.bl b] = some (bI b) := rfl
def envL (s t : Sg.S) (nums : D) (N : Int) (x y : B2) (x7 x10 x11 x12 : Option U) (p c : X2) : Mir.Env :=
  [some (.d (sgD s)), some (.d (sgD t)), some (.d nums), some (.d (.int N)), some (.d (oD x y)), some (.d (iD c)), some (.d (iD p)), x7, some (.d (.int (lotN x p.1 : Nat))), some (.d (.int (lotN p.2 y : Nat))), x10, x11, x12]
def loopL : MS := (seqM (asgM (biM listG [(varM 5)]) (namG 6))
    (seqM (asgM (op2M addG (op2M addG (op2M addG (op2M ixG (varM 4) (conM (.int 0))) (op2M mulG (conM (.int 2)) (op2M ixG (varM 4) (conM (.int 1))))) (op2M mulG (conM (.int 4)) (op2M ixG (varM 5) (conM (.int 0))))) (op2M mulG (conM (.int 8)) (op2M ixG (varM 5) (conM (.int 1))))) (namG 8))
    (seqM (asgM (op2M addG (op2M addG (op2M addG (op2M ixG (varM 5) (conM (.int 2))) (op2M mulG (conM (.int 2)) (op2M ixG (varM 5) (conM (.int 3))))) (op2M mulG (conM (.int 4)) (op2M ixG (varM 4) (conM (.int 2))))) (op2M mulG (conM (.int 8)) (op2M ixG (varM 4) (conM (.int 3))))) (namG 9))
    (asgM (lstM [(biM intG [(callM F__law_figure [(op2M ixG (varM 1) (conM (.int 0))), (varM 9)])]), (biM intG [(callM F__law_figure [(op2M ixG (varM 1) (conM (.int 1))), (varM 9)])]), (biM intG [(callM F__law_figure [(op2M ixG (varM 0) (conM (.int 2))), (varM 8)])]), (biM intG [(callM F__law_figure [(op2M ixG (varM 0) (conM (.int 3))), (varM 8)])])]) (namG 5)))))
theorem list_iD (c : X2) : listG [iD c] = some (iD c) := rfl
theorem loopL_ok (s t : Sg.S) (nums : D) (N : Int) (x y : B2) (x6 x7 x8 x9 x10 x11 x12 : Option U) (c : X2) :
    loopL [some (.d (sgD s)), some (.d (sgD t)), some (.d nums), some (.d (.int N)), some (.d (oD x y)), some (.d (iD c)), x6, x7, x8, x9, x10, x11, x12] [] = .nx (envL s t nums N x y x7 x10 x11 x12 c (stH s t x y c)) [] := by
  obtain ⟨i0, i1, i2, i3⟩ := ixs s
  obtain ⟨j0, j1, j2, j3⟩ := ixs t
  obtain ⟨o0, o1, o2, o3⟩ := oix x y
  obtain ⟨c0, c1, c2, c3⟩ := iix c
  simp [loopL, envL, Mir.seqM, Mir.retM, Mir.retNM, Mir.drpM, Mir.asgM, Mir.ifM, Mir.toS, Mir.namG, Mir.tupG, Mir.allG, Mir.lsuG, Mir.varM, Mir.conM, Mir.op2M, Mir.op1M, Mir.tstM, Mir.andM, Mir.orM, Mir.notM, Mir.andT, Mir.orT, Mir.notT, Mir.iteM, Mir.chM, Mir.biM, Mir.isM, Mir.callM, Mir.callC, Mir.callN, Mir.argsM, Mir.O.bind, Mir.rd, Mir.rds, Mir.pures, Mir.tupM, Mir.lstM, Mir.nlsM, Mir.slM, Mir.noP, Mir.someP, Mir.slG, Mir.lcM, Mir.nlcM, Mir.wipeE, Mir.seqI, Mir.rng1I, Mir.rng2I, Mir.zpBI, Mir.seqU, Mir.strI, Mir.forM, Mir.setM, Mir.setC, Mir.parsM, Mir.setUs, Mir.meM, Mir.joinG, Mir.splG, Mir.lenG, Mir.strG, Mir.tupleG, Mir.isdic, Mir.isE, Mir.subG, Mir.mulOk, Mir.fdivG, Mir.modG, Mir.powG, Mir.negG, Mir.ltG, Mir.leG, Mir.gtG, Mir.geG, Mir.isG, Mir.isNotG, Mir.isNon, Mir.env0, Mir.ins1, Mir.run0, Mir.run1, Mir.runN, Mir.frz, Mir.nxtM, Mir.unM, Mir.appM, Mir.isLst, Mir.kmIx, Mir.kmIn, Mir.scpM, Mir.lowU, big, j0, j1, i2, i3, o0, o1, o2, o3, c0, c1, c2, c3, list_iD, mul_bI, add_s1, add_s2, add_s3, int_bl, lfig0, lfig1, lfig2, lfig3, stH]
  rfl
def upL : MS := (seqM (asgM (lstM [(callM F__law_figure [(op2M ixG (varM 0) (conM (.int 0))), (varM 8)]), (callM F__law_figure [(op2M ixG (varM 0) (conM (.int 1))), (varM 8)])]) (namG 7))
    (seqM (asgM (op2M addG (varM 7) (lstM [(callM F__law_figure [(op2M ixG (varM 1) (conM (.int 2))), (varM 9)]), (callM F__law_figure [(op2M ixG (varM 1) (conM (.int 3))), (varM 9)])])) (namG 7))
    (asgM (lcM (zpBI (varM 2) (varM 7)) (.many [11, 12]) yesM (op2M addG (varM 11) (iteM (tstM (varM 12)) (callM F__law_worth [(varM 3)]) (conM (.int 0)))) [11, 12]) (namG 2))))
noncomputable def lotL : MS := (seqM (asgM (lcM (seqI (tupM [(conM (.int 1)), (conM (.int 2)), (conM (.int 4)), (conM (.int 8))])) (.one 10) yesM (op2M modG (op2M fdivG (varM 3) (varM 10)) (conM (.int 2))) [10]) (namG 4))
    (seqM (parsM [5, 6] [(lstM [(conM (.int 0)), (conM (.int 0)), (conM (.int 0)), (conM (.int 0))]), (conM .non)])
    (seqM (whM (tstM (op2M neG (varM 6) (varM 5))) loopL)
    upL)))
theorem m_ljoin_eq : m__law_join = (seqM (asgM (lstM [(conM (.int 0)), (conM (.int 0)), (conM (.int 0)), (conM (.int 0))]) (namG 2))
    (seqM (forM (rng1I (conM (.int 16))) (namG 3) lotL)
    (retM (biM tupleG [(varM 2)])))) := rfl
theorem upL_ok (s t : Sg.S) (a0 a1 a2 a3 : Int) (x y i b : B2) (hi : i = t.L b y) (x7 x10 x11 x12 : Option U) :
    upL (envL s t (nums4 a0 a1 a2 a3) (lotN x y : Nat) x y x7 x10 x11 x12 (i, b) (i, b)) [] = .nx (envL s t (nums4 (a0 + wt (s.L x i).1 (lotN x y)) (a1 + wt (s.L x i).2 (lotN x y)) (a2 + wt (t.R b y).1 (lotN x y)) (a3 + wt (t.R b y).2 (lotN x y))) (lotN x y : Nat) x y (some (.d (.lst [.bl (s.L x i).1, .bl (s.L x i).2, .bl (t.R b y).1, .bl (t.R b y).2]))) x10 x11 x12 (i, b) (i, b)) [] := by
  obtain ⟨i0, i1, i2, i3⟩ := ixs s
  obtain ⟨j0, j1, j2, j3⟩ := ixs t
  have hw := worth_ok (lotN x y) (lot_lt x y)
  have ad : ∀ p q : Int, addG (.int p) (.int q) = some (.int (p + q)) := fun _ _ => rfl
  have al : ∀ p q r u : Bool, addG (.lst [.bl p, .bl q]) (.lst [.bl r, .bl u]) = some (.lst [.bl p, .bl q, .bl r, .bl u]) := fun _ _ _ _ => rfl
  have g0 := lfig0 s x i
  have g1 := lfig1 s x i
  have g2 := lfig2 t b y
  have g3 := lfig3 t b y
  unfold upL envL nums4
  generalize lotN x y = n at *
  generalize lotN x i = m1 at *
  generalize lotN b y = m2 at *
  simp [Mir.seqM, Mir.retM, Mir.retNM, Mir.drpM, Mir.asgM, Mir.ifM, Mir.toS, Mir.namG, Mir.tupG, Mir.allG, Mir.lsuG, Mir.varM, Mir.conM, Mir.op2M, Mir.op1M, Mir.tstM, Mir.andM, Mir.orM, Mir.notM, Mir.andT, Mir.orT, Mir.notT, Mir.iteM, Mir.chM, Mir.biM, Mir.isM, Mir.callM, Mir.callC, Mir.callN, Mir.argsM, Mir.O.bind, Mir.rd, Mir.rds, Mir.pures, Mir.tupM, Mir.lstM, Mir.nlsM, Mir.slM, Mir.noP, Mir.someP, Mir.slG, Mir.lcM, Mir.nlcM, Mir.wipeE, Mir.seqI, Mir.rng1I, Mir.rng2I, Mir.zpBI, Mir.seqU, Mir.strI, Mir.forM, Mir.setM, Mir.setC, Mir.parsM, Mir.setUs, Mir.meM, Mir.joinG, Mir.splG, Mir.lenG, Mir.intG, Mir.strG, Mir.listG, Mir.tupleG, Mir.isdic, Mir.isE, Mir.subG, Mir.mulG, Mir.mulOk, Mir.fdivG, Mir.modG, Mir.powG, Mir.negG, Mir.ltG, Mir.leG, Mir.gtG, Mir.geG, Mir.isG, Mir.isNotG, Mir.isNon, Mir.env0, Mir.ins1, Mir.run0, Mir.run1, Mir.runN, Mir.frz, Mir.nxtM, Mir.unM, Mir.appM, Mir.isLst, Mir.kmIx, Mir.kmIn, Mir.scpM, Mir.lowU, lcL, setT, setMany, yesM, i0, i1, j2, j3, al, g0, g1, g2, g3, big, ad, pairs]
  generalize (s.L x i).1 = c0
  generalize (s.L x i).2 = c1
  generalize (t.R b y).1 = c2
  generalize (t.R b y).2 = c3
  cases c0 <;> cases c1 <;> cases c2 <;> cases c3 <;> simp [wt, hw, ad]
theorem lotN_bits (x y : B2) : (lotN x y : Int) / 1 % 2 = (if x.1 = true then 1 else 0) ∧ (lotN x y : Int) / 2 % 2 = (if x.2 = true then 1 else 0) ∧ (lotN x y : Int) / 4 % 2 = (if y.1 = true then 1 else 0) ∧ (lotN x y : Int) / 8 % 2 = (if y.2 = true then 1 else 0) := by
  obtain ⟨a, b⟩ := x
  obtain ⟨c, d⟩ := y
  cases a <;> cases b <;> cases c <;> cases d <;> decide
theorem lotL_ok {s t : Sg.S} (hs : s.Mon) (ht : t.Mon) (a0 a1 a2 a3 : Int) (x y : B2) (x4 x5 x6 x7 x8 x9 x10 x11 x12 : Option U) :
    ∃ y4 y5 y6 y7 y8 y9 y10 y11 y12 : Option U, lotL [some (.d (sgD s)), some (.d (sgD t)), some (.d (nums4 a0 a1 a2 a3)), some (.d (.int (lotN x y : Nat))), x4, x5, x6, x7, x8, x9, x10, x11, x12] [] =
      .nx [some (.d (sgD s)), some (.d (sgD t)), some (.d (nums4 (a0 + wt ((Sg.join s t).L x y).1 (lotN x y)) (a1 + wt ((Sg.join s t).L x y).2 (lotN x y)) (a2 + wt ((Sg.join s t).R x y).1 (lotN x y)) (a3 + wt ((Sg.join s t).R x y).2 (lotN x y)))), some (.d (.int (lotN x y : Nat))), y4, y5, y6, y7, y8, y9, y10, y11, y12] [] := by
  obtain ⟨q, hq, hf, hw⟩ := wh_climb (tc := tstM (op2M neG (varM 6) (varM 5))) (f := loopL) (S := []) (E := envL s t (nums4 a0 a1 a2 a3) (lotN x y : Nat) x y x7 x10 x11 x12) (H := stH s t x y) (p0 := ((false, false), (false, false)))
    (E0 := [some (.d (sgD s)), some (.d (sgD t)), some (.d (nums4 a0 a1 a2 a3)), some (.d (.int (lotN x y : Nat))), some (.d (oD x y)), some (.d (iD ((false, false), (false, false)))), some (.d .non), x7, x8, x9, x10, x11, x12])
    (PH s t x y) ms2 (PH_step hs ht x y) ms2_le (by simp [Mir.seqM, Mir.retM, Mir.retNM, Mir.drpM, Mir.asgM, Mir.ifM, Mir.toS, Mir.namG, Mir.tupG, Mir.allG, Mir.lsuG, Mir.varM, Mir.conM, Mir.op2M, Mir.op1M, Mir.tstM, Mir.andM, Mir.orM, Mir.notM, Mir.andT, Mir.orT, Mir.notT, Mir.iteM, Mir.chM, Mir.biM, Mir.isM, Mir.callM, Mir.callC, Mir.callN, Mir.argsM, Mir.O.bind, Mir.rd, Mir.rds, Mir.pures, Mir.tupM, Mir.lstM, Mir.nlsM, Mir.slM, Mir.noP, Mir.someP, Mir.slG, Mir.lcM, Mir.nlcM, Mir.wipeE, Mir.seqI, Mir.rng1I, Mir.rng2I, Mir.zpBI, Mir.seqU, Mir.strI, Mir.forM, Mir.setM, Mir.setC, Mir.parsM, Mir.setUs, Mir.meM, Mir.joinG, Mir.splG, Mir.lenG, Mir.intG, Mir.strG, Mir.listG, Mir.tupleG, Mir.isdic, Mir.isE, Mir.ixG, Mir.addG, Mir.subG, Mir.mulG, Mir.mulOk, Mir.fdivG, Mir.modG, Mir.powG, Mir.negG, Mir.ltG, Mir.leG, Mir.gtG, Mir.geG, Mir.isG, Mir.isNotG, Mir.isNon, Mir.env0, Mir.ins1, Mir.run0, Mir.run1, Mir.runN, Mir.frz, Mir.nxtM, Mir.unM, Mir.appM, Mir.isLst, Mir.kmIx, Mir.kmIn, Mir.scpM, Mir.lowU, ne_ni]) (loopL_ok s t _ _ x y _ _ _ _ _ _ _ _) (fun p c => by simp [envL, Mir.seqM, Mir.retM, Mir.retNM, Mir.drpM, Mir.asgM, Mir.ifM, Mir.toS, Mir.namG, Mir.tupG, Mir.allG, Mir.lsuG, Mir.varM, Mir.conM, Mir.op2M, Mir.op1M, Mir.tstM, Mir.andM, Mir.orM, Mir.notM, Mir.andT, Mir.orT, Mir.notT, Mir.iteM, Mir.chM, Mir.biM, Mir.isM, Mir.callM, Mir.callC, Mir.callN, Mir.argsM, Mir.O.bind, Mir.rd, Mir.rds, Mir.pures, Mir.tupM, Mir.lstM, Mir.nlsM, Mir.slM, Mir.noP, Mir.someP, Mir.slG, Mir.lcM, Mir.nlcM, Mir.wipeE, Mir.seqI, Mir.rng1I, Mir.rng2I, Mir.zpBI, Mir.seqU, Mir.strI, Mir.forM, Mir.setM, Mir.setC, Mir.parsM, Mir.setUs, Mir.meM, Mir.joinG, Mir.splG, Mir.lenG, Mir.intG, Mir.strG, Mir.listG, Mir.tupleG, Mir.isdic, Mir.isE, Mir.ixG, Mir.addG, Mir.subG, Mir.mulG, Mir.mulOk, Mir.fdivG, Mir.modG, Mir.powG, Mir.negG, Mir.ltG, Mir.leG, Mir.gtG, Mir.geG, Mir.isG, Mir.isNotG, Mir.isNon, Mir.env0, Mir.ins1, Mir.run0, Mir.run1, Mir.runN, Mir.frz, Mir.nxtM, Mir.unM, Mir.appM, Mir.isLst, Mir.kmIx, Mir.kmIn, Mir.scpM, Mir.lowU, ne_ii]) (fun p c => loopL_ok s t _ _ x y _ _ _ _ _ _ _ _)
    ⟨⟨Sg.bot_le _, Sg.bot_le _⟩, fun z _ => ⟨Sg.bot_le _, Sg.bot_le _⟩⟩
  have he := PH_end hs ht hq hf
  have hu := upL_ok s t a0 a1 a2 a3 x y (t.L (Sg.bk s t x y) y) (Sg.bk s t x y) rfl x7 x10 x11 x12
  rw [he] at hw
  unfold envL at hw hu
  dsimp only at hw hu
  obtain ⟨b1, b2, b3, b4⟩ := lotN_bits x y
  have e0 : D.lst [.int 0, .int 0, .int 0, .int 0] = iD ((false, false), (false, false)) := rfl
  have e1 : D.lst [.int (if x.1 = true then 1 else 0), .int (if x.2 = true then 1 else 0), .int (if y.1 = true then 1 else 0), .int (if y.2 = true then 1 else 0)] = oD x y := rfl
  have l2 : (2 : Int).natAbs.log2 < 9000 ∧ (4 : Int).natAbs.log2 < 9000 ∧ (8 : Int).natAbs.log2 < 9000 ∧ (1 : Int).natAbs.log2 < 9000 := by decide
  obtain ⟨l2, l4, l8, l1⟩ := l2
  have d1 : ∀ p : Int, fdivG (.int p) (.int 1) = some (.int (p / 1)) ∧ fdivG (.int p) (.int 2) = some (.int (p / 2)) ∧ fdivG (.int p) (.int 4) = some (.int (p / 4)) ∧ fdivG (.int p) (.int 8) = some (.int (p / 8)) := fun p => by refine ⟨?_, ?_, ?_, ?_⟩ <;> simp only [fdivG] <;> exact if_pos (by decide)
  have d2 : ∀ p : Int, modG (.int p) (.int 2) = some (.int (p % 2)) := fun p => by simp only [modG]; exact if_pos (by decide)
  refine ⟨some (.d (oD x y)), some (.d (iD (t.L (Sg.bk s t x y) y, Sg.bk s t x y))), some (.d (iD (t.L (Sg.bk s t x y) y, Sg.bk s t x y))), _, _, _, x10, x11, x12, Eq.trans ?_ hu⟩
  simp only [Int.ediv_one] at b1 d1
  simp [lotL, Mir.seqM, Mir.retM, Mir.retNM, Mir.drpM, Mir.asgM, Mir.ifM, Mir.toS, Mir.namG, Mir.tupG, Mir.allG, Mir.lsuG, Mir.varM, Mir.conM, Mir.op2M, Mir.op1M, Mir.tstM, Mir.andM, Mir.orM, Mir.notM, Mir.andT, Mir.orT, Mir.notT, Mir.iteM, Mir.chM, Mir.biM, Mir.isM, Mir.callM, Mir.callC, Mir.callN, Mir.argsM, Mir.O.bind, Mir.rd, Mir.rds, Mir.pures, Mir.tupM, Mir.lstM, Mir.nlsM, Mir.slM, Mir.noP, Mir.someP, Mir.slG, Mir.lcM, Mir.nlcM, Mir.wipeE, Mir.seqI, Mir.rng1I, Mir.rng2I, Mir.zpBI, Mir.seqU, Mir.strI, Mir.forM, Mir.setM, Mir.setC, Mir.parsM, Mir.setUs, Mir.meM, Mir.joinG, Mir.splG, Mir.lenG, Mir.intG, Mir.strG, Mir.listG, Mir.tupleG, Mir.isdic, Mir.isE, Mir.ixG, Mir.addG, Mir.subG, Mir.mulG, Mir.mulOk, Mir.powG, Mir.negG, Mir.ltG, Mir.leG, Mir.gtG, Mir.geG, Mir.isG, Mir.isNotG, Mir.isNon, Mir.env0, Mir.ins1, Mir.run0, Mir.run1, Mir.runN, Mir.frz, Mir.nxtM, Mir.unM, Mir.appM, Mir.isLst, Mir.kmIx, Mir.kmIn, Mir.scpM, Mir.lowU, lcL, setT, yesM, d1, d2, b1, b2, b3, b4, e0, e1, hw, big]
theorem llots_ok {s t : Sg.S} (hs : s.Mon) (ht : t.Mon) : ∀ (ps : List (B2 × B2)) (a : I4) (x3 x4 x5 x6 x7 x8 x9 x10 x11 x12 : Option U),
    ∃ y3 y4 y5 y6 y7 y8 y9 y10 y11 y12 : Option U, forL (namG 3) lotL (ps.map fun p => D.int (lotN p.1 p.2 : Nat)) [some (.d (sgD s)), some (.d (sgD t)), some (.d (nums4 a.1 a.2.1 a.2.2.1 a.2.2.2)), x3, x4, x5, x6, x7, x8, x9, x10, x11, x12] [] =
      .nx [some (.d (sgD s)), some (.d (sgD t)), some (.d (nums4 (ps.foldl (stepJ (Sg.join s t)) a).1 (ps.foldl (stepJ (Sg.join s t)) a).2.1 (ps.foldl (stepJ (Sg.join s t)) a).2.2.1 (ps.foldl (stepJ (Sg.join s t)) a).2.2.2)), y3, y4, y5, y6, y7, y8, y9, y10, y11, y12] []
  | [], a, x3, x4, x5, x6, x7, x8, x9, x10, x11, x12 => ⟨x3, x4, x5, x6, x7, x8, x9, x10, x11, x12, rfl⟩
  | p :: ps, a, x3, x4, x5, x6, x7, x8, x9, x10, x11, x12 => by
    obtain ⟨y4, y5, y6, y7, y8, y9, y10, y11, y12, h1⟩ := lotL_ok hs ht a.1 a.2.1 a.2.2.1 a.2.2.2 p.1 p.2 x4 x5 x6 x7 x8 x9 x10 x11 x12
    obtain ⟨z3, z4, z5, z6, z7, z8, z9, z10, z11, z12, h2⟩ := llots_ok hs ht ps (stepJ (Sg.join s t) a p) (some (.d (.int (lotN p.1 p.2 : Nat)))) y4 y5 y6 y7 y8 y9 y10 y11 y12
    refine ⟨z3, z4, z5, z6, z7, z8, z9, z10, z11, z12, ?_⟩
    have hg : namG 3 (.d (D.int (lotN p.1 p.2 : Nat))) [some (.d (sgD s)), some (.d (sgD t)), some (.d (nums4 a.1 a.2.1 a.2.2.1 a.2.2.2)), x3, x4, x5, x6, x7, x8, x9, x10, x11, x12] [] = some ([some (.d (sgD s)), some (.d (sgD t)), some (.d (nums4 a.1 a.2.1 a.2.2.1 a.2.2.2)), some (.d (.int (lotN p.1 p.2 : Nat))), x4, x5, x6, x7, x8, x9, x10, x11, x12], []) := rfl
    simp only [List.map_cons, forL, hg, h1]
    exact h2
theorem ljoin_ok {s t : Sg.S} (hs : s.Mon) (ht : t.Mon) : F__law_join [sgD s, sgD t] = .ok (sgD (Sg.join s t)) := by
  obtain ⟨y3, y4, y5, y6, y7, y8, y9, y10, y11, y12, h⟩ := llots_ok hs ht ins (0, 0, 0, 0) none none none none none none none none none none
  rw [fold_sg] at h
  rw [← lots_ins] at h
  simp only [nums4] at h
  simp [F__law_join, m_ljoin_eq, Mir.seqM, Mir.retM, Mir.retNM, Mir.drpM, Mir.asgM, Mir.ifM, Mir.toS, Mir.namG, Mir.tupG, Mir.allG, Mir.lsuG, Mir.varM, Mir.conM, Mir.op2M, Mir.op1M, Mir.tstM, Mir.andM, Mir.orM, Mir.notM, Mir.andT, Mir.orT, Mir.notT, Mir.iteM, Mir.chM, Mir.biM, Mir.isM, Mir.callM, Mir.callC, Mir.callN, Mir.argsM, Mir.O.bind, Mir.rd, Mir.rds, Mir.pures, Mir.tupM, Mir.lstM, Mir.nlsM, Mir.slM, Mir.noP, Mir.someP, Mir.slG, Mir.lcM, Mir.nlcM, Mir.wipeE, Mir.seqI, Mir.rng1I, Mir.rng2I, Mir.zpBI, Mir.seqU, Mir.strI, Mir.forM, Mir.setM, Mir.setC, Mir.parsM, Mir.setUs, Mir.meM, Mir.joinG, Mir.splG, Mir.lenG, Mir.intG, Mir.strG, Mir.listG, Mir.tupleG, Mir.isdic, Mir.isE, Mir.ixG, Mir.addG, Mir.subG, Mir.mulG, Mir.mulOk, Mir.fdivG, Mir.modG, Mir.powG, Mir.negG, Mir.ltG, Mir.leG, Mir.gtG, Mir.geG, Mir.isG, Mir.isNotG, Mir.isNon, Mir.env0, Mir.ins1, Mir.run0, Mir.run1, Mir.runN, Mir.frz, Mir.nxtM, Mir.unM, Mir.appM, Mir.isLst, Mir.kmIx, Mir.kmIn, Mir.scpM, Mir.lowU, List.range, List.range.loop, h]
  rfl

/-! ### what is a sign -/
theorem lc2L_pure {tg1 tg2 : Tg} {t1 t2 : MT} {f : ME} {es : List D} {vs1 : List Nat} {ρ0 : Mir.Env} {S : Sto} (q : D → D → Bool) (g : D → D → D) : ∀ ds : List D,
    (∀ d ∈ ds, ∃ ρ, setT tg1 d ρ0 = some ρ ∧ t1 ρ S = .ok true S ∧ ∀ e ∈ es, ∃ ρ2, setT tg2 e (wipeE ρ vs1) = some ρ2 ∧ t2 ρ2 S = .ok (q d e) S ∧ (q d e = true → f ρ2 S = .ok (.d (g d e)) S)) →
    lc2L tg1 t1 es tg2 t2 f vs1 ρ0 ds S = .ok (ds.flatMap fun d => (es.filter (q d)).map (g d)) S
  | [], _ => rfl
  | d :: ds, h => by
    obtain ⟨ρ, h1, h2, h3⟩ := h d List.mem_cons_self
    have ih := lc2L_pure q g ds fun x hx => h x (List.mem_cons_of_mem _ hx)
    have hin := lcL_filter (tg := tg2) (t := t2) (f := f) (ρ0 := wipeE ρ vs1) (S := S) (q d) (g d) es h3
    simp only [lc2L, h1, h2, hin, ih, List.flatMap_cons]
theorem bls_of : ∀ bs : List Bool, blsOf (bs.map .bl) = some bs
  | [] => rfl
  | b :: bs => by simp [blsOf, bls_of bs]
def lots : List Nat := [0, 1, 2, 3, 4, 5, 6, 7, 8, 9, 10, 11, 12, 13, 14, 15]
def pows : List Nat := [1, 2, 4, 8]
def nI (i : Nat) : D := .int (i : Nat)
def risL (n : Int) : List Bool := (lots.filter (bitI n)).flatMap fun i => (pows.filter fun p => i / p % 2 == 0).map fun p => bitI n (i + p)
def risB (n : Int) : Bool := (risL n).all id
theorem lots_n : [D.int 0, .int 1, .int 2, .int 3, .int 4, .int 5, .int 6, .int 7, .int 8, .int 9, .int 10, .int 11, .int 12, .int 13, .int 14, .int 15] = lots.map nI := rfl
theorem pows_n : [D.int 1, .int 2, .int 4, .int 8] = pows.map nI := rfl
theorem pow_ok : ∀ i ∈ lots, ∀ p ∈ pows, 0 < p ∧ p.log2 < 9000 ∧ ((i : Int) / (p : Int) % 2 == 0) = (i / p % 2 == 0) ∧ ((i / p % 2 == 0) = true → i + p < 16) := by decide
theorem lots_lt {i : Nat} (h : i ∈ lots) : i < 16 := by
  revert i; decide
theorem rises_ok (n : Int) : F_rises [.int n] = .ok (.bl (risB n)) := by
  have h1 := lcL_filter (tg := .one 2) (t := tstM (callM F_figure [(varM 0), (varM 2)])) (f := varM 2) (ρ0 := [some (.d (.int n)), none, none, none]) (S := []) (fun d => match d with | .int i => bitI n i.toNat | _ => false) id (lots.map nI) fun d hd => by
    obtain ⟨i, hi, rfl⟩ := List.mem_map.mp hd
    have hf := figure_ok n i (lots_lt hi)
    refine ⟨_, rfl, ?_, fun _ => ?_⟩
    · simp [Mir.seqM, Mir.retM, Mir.retNM, Mir.drpM, Mir.asgM, Mir.ifM, Mir.toS, Mir.namG, Mir.tupG, Mir.allG, Mir.lsuG, Mir.varM, Mir.conM, Mir.op2M, Mir.op1M, Mir.tstM, Mir.andM, Mir.orM, Mir.notM, Mir.andT, Mir.orT, Mir.notT, Mir.iteM, Mir.chM, Mir.biM, Mir.isM, Mir.callM, Mir.callC, Mir.callN, Mir.argsM, Mir.O.bind, Mir.rd, Mir.rds, Mir.pures, Mir.tupM, Mir.lstM, Mir.nlsM, Mir.slM, Mir.noP, Mir.someP, Mir.slG, Mir.lcM, Mir.nlcM, Mir.wipeE, Mir.seqI, Mir.rng1I, Mir.rng2I, Mir.zpBI, Mir.seqU, Mir.strI, Mir.forM, Mir.setM, Mir.setC, Mir.parsM, Mir.setUs, Mir.meM, Mir.joinG, Mir.splG, Mir.lenG, Mir.intG, Mir.strG, Mir.listG, Mir.tupleG, Mir.isdic, Mir.isE, Mir.ixG, Mir.addG, Mir.subG, Mir.mulG, Mir.mulOk, Mir.fdivG, Mir.modG, Mir.powG, Mir.negG, Mir.ltG, Mir.leG, Mir.gtG, Mir.geG, Mir.isG, Mir.isNotG, Mir.isNon, Mir.env0, Mir.ins1, Mir.run0, Mir.run1, Mir.runN, Mir.frz, Mir.nxtM, Mir.unM, Mir.appM, Mir.isLst, Mir.kmIx, Mir.kmIn, Mir.scpM, Mir.lowU, nI, hf]
    · simp [Mir.seqM, Mir.retM, Mir.retNM, Mir.drpM, Mir.asgM, Mir.ifM, Mir.toS, Mir.namG, Mir.tupG, Mir.allG, Mir.lsuG, Mir.varM, Mir.conM, Mir.op2M, Mir.op1M, Mir.tstM, Mir.andM, Mir.orM, Mir.notM, Mir.andT, Mir.orT, Mir.notT, Mir.iteM, Mir.chM, Mir.biM, Mir.isM, Mir.callM, Mir.callC, Mir.callN, Mir.argsM, Mir.O.bind, Mir.rd, Mir.rds, Mir.pures, Mir.tupM, Mir.lstM, Mir.nlsM, Mir.slM, Mir.noP, Mir.someP, Mir.slG, Mir.lcM, Mir.nlcM, Mir.wipeE, Mir.seqI, Mir.rng1I, Mir.rng2I, Mir.zpBI, Mir.seqU, Mir.strI, Mir.forM, Mir.setM, Mir.setC, Mir.parsM, Mir.setUs, Mir.meM, Mir.joinG, Mir.splG, Mir.lenG, Mir.intG, Mir.strG, Mir.listG, Mir.tupleG, Mir.isdic, Mir.isE, Mir.ixG, Mir.addG, Mir.subG, Mir.mulG, Mir.mulOk, Mir.fdivG, Mir.modG, Mir.powG, Mir.negG, Mir.ltG, Mir.leG, Mir.gtG, Mir.geG, Mir.isG, Mir.isNotG, Mir.isNon, Mir.env0, Mir.ins1, Mir.run0, Mir.run1, Mir.runN, Mir.frz, Mir.nxtM, Mir.unM, Mir.appM, Mir.isLst, Mir.kmIx, Mir.kmIn, Mir.scpM, Mir.lowU, nI]
  have e1 : ((lots.map nI).filter (fun d => match d with | .int i => bitI n i.toNat | _ => false)).map id = (lots.filter (bitI n)).map nI := by
    rw [List.map_id, List.filter_map]
    rfl
  rw [e1, ← lots_n] at h1
  have h2 := lc2L_pure (tg1 := .one 2) (tg2 := .one 3) (t1 := yesM) (t2 := tstM (op2M eqG (op2M modG (op2M fdivG (varM 2) (varM 3)) (conM (.int 2))) (conM (.int 0)))) (f := callM F_figure [(varM 0), (op2M addG (varM 2) (varM 3))]) (es := E_POWERS) (vs1 := [3])
    (ρ0 := [some (.d (.int n)), some (.d (.lst ((lots.filter (bitI n)).map nI))), none, none]) (S := []) (fun d e => match d, e with | .int i, .int p => i.toNat / p.toNat % 2 == 0 | _, _ => false) (fun d e => match d, e with | .int i, .int p => .bl (bitI n (i.toNat + p.toNat)) | _, _ => .non)
    ((lots.filter (bitI n)).map nI) fun d hd => by
      obtain ⟨i, hi, rfl⟩ := List.mem_map.mp hd
      have hi := (List.mem_filter.mp hi).1
      refine ⟨_, rfl, rfl, fun e he => ?_⟩
      have he' : e ∈ pows.map nI := he
      obtain ⟨p, hp, rfl⟩ := List.mem_map.mp he'
      obtain ⟨k1, k2, k3, k4⟩ := pow_ok i hi p hp
      refine ⟨_, rfl, ?_, fun hq => ?_⟩
      · simp [Mir.seqM, Mir.retM, Mir.retNM, Mir.drpM, Mir.asgM, Mir.ifM, Mir.toS, Mir.namG, Mir.tupG, Mir.allG, Mir.lsuG, Mir.varM, Mir.conM, Mir.op2M, Mir.op1M, Mir.tstM, Mir.andM, Mir.orM, Mir.notM, Mir.andT, Mir.orT, Mir.notT, Mir.iteM, Mir.chM, Mir.biM, Mir.isM, Mir.callM, Mir.callC, Mir.callN, Mir.argsM, Mir.O.bind, Mir.rd, Mir.rds, Mir.pures, Mir.tupM, Mir.lstM, Mir.nlsM, Mir.slM, Mir.noP, Mir.someP, Mir.slG, Mir.lcM, Mir.nlcM, Mir.wipeE, Mir.seqI, Mir.rng1I, Mir.rng2I, Mir.zpBI, Mir.seqU, Mir.strI, Mir.forM, Mir.setM, Mir.setC, Mir.parsM, Mir.setUs, Mir.meM, Mir.joinG, Mir.splG, Mir.lenG, Mir.intG, Mir.strG, Mir.listG, Mir.tupleG, Mir.isdic, Mir.isE, Mir.ixG, Mir.addG, Mir.subG, Mir.mulG, Mir.mulOk, Mir.fdivG, Mir.modG, Mir.powG, Mir.negG, Mir.ltG, Mir.leG, Mir.gtG, Mir.geG, Mir.isG, Mir.isNotG, Mir.isNon, Mir.env0, Mir.ins1, Mir.run0, Mir.run1, Mir.runN, Mir.frz, Mir.nxtM, Mir.unM, Mir.appM, Mir.isLst, Mir.kmIx, Mir.kmIn, Mir.scpM, Mir.lowU, nI, k1, k2, eqG_int, k3]
      · have hf := figure_ok n (i + p) (k4 hq)
        simp at hf
        simp [Mir.seqM, Mir.retM, Mir.retNM, Mir.drpM, Mir.asgM, Mir.ifM, Mir.toS, Mir.namG, Mir.tupG, Mir.allG, Mir.lsuG, Mir.varM, Mir.conM, Mir.op2M, Mir.op1M, Mir.tstM, Mir.andM, Mir.orM, Mir.notM, Mir.andT, Mir.orT, Mir.notT, Mir.iteM, Mir.chM, Mir.biM, Mir.isM, Mir.callM, Mir.callC, Mir.callN, Mir.argsM, Mir.O.bind, Mir.rd, Mir.rds, Mir.pures, Mir.tupM, Mir.lstM, Mir.nlsM, Mir.slM, Mir.noP, Mir.someP, Mir.slG, Mir.lcM, Mir.nlcM, Mir.wipeE, Mir.seqI, Mir.rng1I, Mir.rng2I, Mir.zpBI, Mir.seqU, Mir.strI, Mir.forM, Mir.setM, Mir.setC, Mir.parsM, Mir.setUs, Mir.meM, Mir.joinG, Mir.splG, Mir.lenG, Mir.intG, Mir.strG, Mir.listG, Mir.tupleG, Mir.isdic, Mir.isE, Mir.ixG, Mir.addG, Mir.subG, Mir.mulG, Mir.mulOk, Mir.fdivG, Mir.modG, Mir.powG, Mir.negG, Mir.ltG, Mir.leG, Mir.gtG, Mir.geG, Mir.isG, Mir.isNotG, Mir.isNon, Mir.env0, Mir.ins1, Mir.run0, Mir.run1, Mir.runN, Mir.frz, Mir.nxtM, Mir.unM, Mir.appM, Mir.isLst, Mir.kmIx, Mir.kmIn, Mir.scpM, Mir.lowU, nI, hf]
  have e2 : ((lots.filter (bitI n)).map nI).flatMap (fun d => (E_POWERS.filter ((fun d e => match d, e with | .int i, .int p => i.toNat / p.toNat % 2 == 0 | _, _ => false : D → D → Bool) d)).map ((fun d e => match d, e with | .int i, .int p => .bl (bitI n (i.toNat + p.toNat)) | _, _ => .non : D → D → D) d)) = (risL n).map .bl := by
    unfold risL
    rw [List.flatMap_map, List.map_flatMap]
    congr 1
    funext i
    show ((pows.map nI).filter _).map _ = _
    rw [List.filter_map, List.map_map, List.map_map]
    rfl
  rw [e2] at h2
  have hl : ((lots.filter (bitI n)).map nI).length ≤ 1000 := by
    rw [List.length_map]
    exact Nat.le_trans (List.length_filter_le _ _) (by decide)
  have hl4 : E_POWERS.length ≤ 1000 := by decide
  have hl' : (lots.filter (bitI n)).length ≤ 1000 := by rw [List.length_map] at hl; exact hl
  have hb := bls_of (risL n)
  simp [F_rises, m_rises, Mir.seqM, Mir.retM, Mir.retNM, Mir.drpM, Mir.asgM, Mir.ifM, Mir.toS, Mir.namG, Mir.tupG, Mir.allG, Mir.lsuG, Mir.varM, Mir.conM, Mir.op2M, Mir.op1M, Mir.tstM, Mir.andM, Mir.orM, Mir.notM, Mir.andT, Mir.orT, Mir.notT, Mir.iteM, Mir.chM, Mir.biM, Mir.isM, Mir.callM, Mir.callC, Mir.callN, Mir.argsM, Mir.O.bind, Mir.rd, Mir.rds, Mir.pures, Mir.tupM, Mir.lstM, Mir.nlsM, Mir.slM, Mir.noP, Mir.someP, Mir.slG, Mir.lcM, Mir.nlcM, Mir.wipeE, Mir.seqI, Mir.rng1I, Mir.rng2I, Mir.zpBI, Mir.seqU, Mir.strI, Mir.forM, Mir.setM, Mir.setC, Mir.parsM, Mir.setUs, Mir.meM, Mir.joinG, Mir.splG, Mir.lenG, Mir.intG, Mir.strG, Mir.listG, Mir.tupleG, Mir.isdic, Mir.isE, Mir.ixG, Mir.addG, Mir.subG, Mir.mulG, Mir.mulOk, Mir.fdivG, Mir.modG, Mir.powG, Mir.negG, Mir.ltG, Mir.leG, Mir.gtG, Mir.geG, Mir.isG, Mir.isNotG, Mir.isNon, Mir.env0, Mir.ins1, Mir.run0, Mir.run1, Mir.runN, Mir.frz, Mir.nxtM, Mir.unM, Mir.appM, Mir.isLst, Mir.kmIx, Mir.kmIn, Mir.scpM, Mir.lowU, K_LOTS, lc2M, h1, h2, hl, hl', hl4, big, Mir.allB, hb, risB]
/-- an element of a sign -/
def numD : D → Bool
  | .int n => decide (0 ≤ n) && (decide (n ≤ 65535) && risB n)
  | _ => false
def numT : D → Prop
  | .int _ => True
  | .bl _ => True
  | _ => False
theorem isnum_int (n : Int) : F_is_number [.int n, .int 0, .int 65535] = .ok (.bl (decide (0 ≤ n) && decide (n ≤ 65535))) := by
  by_cases h : 0 ≤ n <;> simp [F_is_number, m_is_number, Mir.seqM, Mir.retM, Mir.retNM, Mir.drpM, Mir.asgM, Mir.ifM, Mir.toS, Mir.namG, Mir.tupG, Mir.allG, Mir.lsuG, Mir.varM, Mir.conM, Mir.op2M, Mir.op1M, Mir.tstM, Mir.andM, Mir.orM, Mir.notM, Mir.andT, Mir.orT, Mir.notT, Mir.iteM, Mir.chM, Mir.biM, Mir.isM, Mir.callM, Mir.callC, Mir.callN, Mir.argsM, Mir.O.bind, Mir.rd, Mir.rds, Mir.pures, Mir.tupM, Mir.lstM, Mir.nlsM, Mir.slM, Mir.noP, Mir.someP, Mir.slG, Mir.lcM, Mir.nlcM, Mir.wipeE, Mir.seqI, Mir.rng1I, Mir.rng2I, Mir.zpBI, Mir.seqU, Mir.strI, Mir.forM, Mir.setM, Mir.setC, Mir.parsM, Mir.setUs, Mir.meM, Mir.joinG, Mir.splG, Mir.lenG, Mir.intG, Mir.strG, Mir.listG, Mir.tupleG, Mir.isdic, Mir.isE, Mir.ixG, Mir.addG, Mir.subG, Mir.mulG, Mir.mulOk, Mir.fdivG, Mir.modG, Mir.powG, Mir.negG, Mir.ltG, Mir.leG, Mir.gtG, Mir.geG, Mir.isG, Mir.isNotG, Mir.isNon, Mir.env0, Mir.ins1, Mir.run0, Mir.run1, Mir.runN, Mir.frz, Mir.nxtM, Mir.unM, Mir.appM, Mir.isLst, Mir.kmIx, Mir.kmIn, Mir.scpM, Mir.lowU, h]
theorem isnum_bl (b : Bool) : F_is_number [.bl b, .int 0, .int 65535] = .ok (.bl false) := by
  simp [F_is_number, m_is_number, Mir.seqM, Mir.retM, Mir.retNM, Mir.drpM, Mir.asgM, Mir.ifM, Mir.toS, Mir.namG, Mir.tupG, Mir.allG, Mir.lsuG, Mir.varM, Mir.conM, Mir.op2M, Mir.op1M, Mir.tstM, Mir.andM, Mir.orM, Mir.notM, Mir.andT, Mir.orT, Mir.notT, Mir.iteM, Mir.chM, Mir.biM, Mir.isM, Mir.callM, Mir.callC, Mir.callN, Mir.argsM, Mir.O.bind, Mir.rd, Mir.rds, Mir.pures, Mir.tupM, Mir.lstM, Mir.nlsM, Mir.slM, Mir.noP, Mir.someP, Mir.slG, Mir.lcM, Mir.nlcM, Mir.wipeE, Mir.seqI, Mir.rng1I, Mir.rng2I, Mir.zpBI, Mir.seqU, Mir.strI, Mir.forM, Mir.setM, Mir.setC, Mir.parsM, Mir.setUs, Mir.meM, Mir.joinG, Mir.splG, Mir.lenG, Mir.intG, Mir.strG, Mir.listG, Mir.tupleG, Mir.isdic, Mir.isE, Mir.ixG, Mir.addG, Mir.subG, Mir.mulG, Mir.mulOk, Mir.fdivG, Mir.modG, Mir.powG, Mir.negG, Mir.ltG, Mir.leG, Mir.gtG, Mir.geG, Mir.isG, Mir.isNotG, Mir.isNon, Mir.env0, Mir.ins1, Mir.run0, Mir.run1, Mir.runN, Mir.frz, Mir.nxtM, Mir.unM, Mir.appM, Mir.isLst, Mir.kmIx, Mir.kmIn, Mir.scpM, Mir.lowU]
theorem lint_int (n : Int) : F__law_int [.int n, .int 0, .int 65535] = .ok (.bl (decide (0 ≤ n) && decide (n ≤ 65535))) := by
  by_cases h : 0 ≤ n <;> simp [F__law_int, m__law_int, Mir.seqM, Mir.retM, Mir.retNM, Mir.drpM, Mir.asgM, Mir.ifM, Mir.toS, Mir.namG, Mir.tupG, Mir.allG, Mir.lsuG, Mir.varM, Mir.conM, Mir.op2M, Mir.op1M, Mir.tstM, Mir.andM, Mir.orM, Mir.notM, Mir.andT, Mir.orT, Mir.notT, Mir.iteM, Mir.chM, Mir.biM, Mir.isM, Mir.callM, Mir.callC, Mir.callN, Mir.argsM, Mir.O.bind, Mir.rd, Mir.rds, Mir.pures, Mir.tupM, Mir.lstM, Mir.nlsM, Mir.slM, Mir.noP, Mir.someP, Mir.slG, Mir.lcM, Mir.nlcM, Mir.wipeE, Mir.seqI, Mir.rng1I, Mir.rng2I, Mir.zpBI, Mir.seqU, Mir.strI, Mir.forM, Mir.setM, Mir.setC, Mir.parsM, Mir.setUs, Mir.meM, Mir.joinG, Mir.splG, Mir.lenG, Mir.intG, Mir.strG, Mir.listG, Mir.tupleG, Mir.isdic, Mir.isE, Mir.ixG, Mir.addG, Mir.subG, Mir.mulG, Mir.mulOk, Mir.fdivG, Mir.modG, Mir.powG, Mir.negG, Mir.ltG, Mir.leG, Mir.gtG, Mir.geG, Mir.isG, Mir.isNotG, Mir.isNon, Mir.env0, Mir.ins1, Mir.run0, Mir.run1, Mir.runN, Mir.frz, Mir.nxtM, Mir.unM, Mir.appM, Mir.isLst, Mir.kmIx, Mir.kmIn, Mir.scpM, Mir.lowU, h]
theorem lint_bl (b : Bool) : F__law_int [.bl b, .int 0, .int 65535] = .ok (.bl false) := by
  simp [F__law_int, m__law_int, Mir.seqM, Mir.retM, Mir.retNM, Mir.drpM, Mir.asgM, Mir.ifM, Mir.toS, Mir.namG, Mir.tupG, Mir.allG, Mir.lsuG, Mir.varM, Mir.conM, Mir.op2M, Mir.op1M, Mir.tstM, Mir.andM, Mir.orM, Mir.notM, Mir.andT, Mir.orT, Mir.notT, Mir.iteM, Mir.chM, Mir.biM, Mir.isM, Mir.callM, Mir.callC, Mir.callN, Mir.argsM, Mir.O.bind, Mir.rd, Mir.rds, Mir.pures, Mir.tupM, Mir.lstM, Mir.nlsM, Mir.slM, Mir.noP, Mir.someP, Mir.slG, Mir.lcM, Mir.nlcM, Mir.wipeE, Mir.seqI, Mir.rng1I, Mir.rng2I, Mir.zpBI, Mir.seqU, Mir.strI, Mir.forM, Mir.setM, Mir.setC, Mir.parsM, Mir.setUs, Mir.meM, Mir.joinG, Mir.splG, Mir.lenG, Mir.intG, Mir.strG, Mir.listG, Mir.tupleG, Mir.isdic, Mir.isE, Mir.ixG, Mir.addG, Mir.subG, Mir.mulG, Mir.mulOk, Mir.fdivG, Mir.modG, Mir.powG, Mir.negG, Mir.ltG, Mir.leG, Mir.gtG, Mir.geG, Mir.isG, Mir.isNotG, Mir.isNon, Mir.env0, Mir.ins1, Mir.run0, Mir.run1, Mir.runN, Mir.frz, Mir.nxtM, Mir.unM, Mir.appM, Mir.isLst, Mir.kmIx, Mir.kmIn, Mir.scpM, Mir.lowU]
/-- what is_sign says -/
def isS : D → Bool
  | .tup ds => ds.length == 4 && ds.all numD
  | _ => false
/-- what the law hands in -/
def okS : D → Prop
  | .tup ds => ds.length ≤ 8 ∧ ∀ d ∈ ds, numT d
  | .lst ds => ds.length ≤ 8
  | .non => True
  | _ => False
theorem is_sign_of_ok {v : D} (h : okS v) : F_is_sign_of [v] = .ok (.bl (isS v)) := by
  cases v with
  | non => simp [F_is_sign_of, m_is_sign_of, Mir.seqM, Mir.retM, Mir.retNM, Mir.drpM, Mir.asgM, Mir.ifM, Mir.toS, Mir.namG, Mir.tupG, Mir.allG, Mir.lsuG, Mir.varM, Mir.conM, Mir.op2M, Mir.op1M, Mir.tstM, Mir.andM, Mir.orM, Mir.notM, Mir.andT, Mir.orT, Mir.notT, Mir.iteM, Mir.chM, Mir.biM, Mir.isM, Mir.callM, Mir.callC, Mir.callN, Mir.argsM, Mir.O.bind, Mir.rd, Mir.rds, Mir.pures, Mir.tupM, Mir.lstM, Mir.nlsM, Mir.slM, Mir.noP, Mir.someP, Mir.slG, Mir.lcM, Mir.nlcM, Mir.wipeE, Mir.seqI, Mir.rng1I, Mir.rng2I, Mir.zpBI, Mir.seqU, Mir.strI, Mir.forM, Mir.setM, Mir.setC, Mir.parsM, Mir.setUs, Mir.meM, Mir.joinG, Mir.splG, Mir.lenG, Mir.intG, Mir.strG, Mir.listG, Mir.tupleG, Mir.isdic, Mir.isE, Mir.ixG, Mir.addG, Mir.subG, Mir.mulG, Mir.mulOk, Mir.fdivG, Mir.modG, Mir.powG, Mir.negG, Mir.ltG, Mir.leG, Mir.gtG, Mir.geG, Mir.isG, Mir.isNotG, Mir.isNon, Mir.env0, Mir.ins1, Mir.run0, Mir.run1, Mir.runN, Mir.frz, Mir.nxtM, Mir.unM, Mir.appM, Mir.isLst, Mir.kmIx, Mir.kmIn, Mir.scpM, Mir.lowU, isS]
  | lst ds => simp [F_is_sign_of, m_is_sign_of, Mir.seqM, Mir.retM, Mir.retNM, Mir.drpM, Mir.asgM, Mir.ifM, Mir.toS, Mir.namG, Mir.tupG, Mir.allG, Mir.lsuG, Mir.varM, Mir.conM, Mir.op2M, Mir.op1M, Mir.tstM, Mir.andM, Mir.orM, Mir.notM, Mir.andT, Mir.orT, Mir.notT, Mir.iteM, Mir.chM, Mir.biM, Mir.isM, Mir.callM, Mir.callC, Mir.callN, Mir.argsM, Mir.O.bind, Mir.rd, Mir.rds, Mir.pures, Mir.tupM, Mir.lstM, Mir.nlsM, Mir.slM, Mir.noP, Mir.someP, Mir.slG, Mir.lcM, Mir.nlcM, Mir.wipeE, Mir.seqI, Mir.rng1I, Mir.rng2I, Mir.zpBI, Mir.seqU, Mir.strI, Mir.forM, Mir.setM, Mir.setC, Mir.parsM, Mir.setUs, Mir.meM, Mir.joinG, Mir.splG, Mir.lenG, Mir.intG, Mir.strG, Mir.listG, Mir.tupleG, Mir.isdic, Mir.isE, Mir.ixG, Mir.addG, Mir.subG, Mir.mulG, Mir.mulOk, Mir.fdivG, Mir.modG, Mir.powG, Mir.negG, Mir.ltG, Mir.leG, Mir.gtG, Mir.geG, Mir.isG, Mir.isNotG, Mir.isNon, Mir.env0, Mir.ins1, Mir.run0, Mir.run1, Mir.runN, Mir.frz, Mir.nxtM, Mir.unM, Mir.appM, Mir.isLst, Mir.kmIx, Mir.kmIn, Mir.scpM, Mir.lowU, isS]
  | tup ds =>
    obtain ⟨h8, hn⟩ := h
    by_cases h4 : ds.length = 4
    · have h1 := lcL_pure (tg := .one 1) (t := yesM) (f := andM (callM F_is_number [(varM 1), (conM (.int 0)), (conM (.int 65535))]) (callM F_rises [(varM 1)])) (ρ0 := [some (.d (.tup ds)), none]) (S := []) (fun d => .bl (numD d)) ds fun d hd => by
        have hd := hn d hd
        refine ⟨_, rfl, rfl, ?_⟩
        cases d with
        | int n =>
          have e1 := isnum_int n
          have e2 := rises_ok n
          by_cases a : 0 ≤ n <;> by_cases b : n ≤ 65535 <;> simp [Mir.seqM, Mir.retM, Mir.retNM, Mir.drpM, Mir.asgM, Mir.ifM, Mir.toS, Mir.namG, Mir.tupG, Mir.allG, Mir.lsuG, Mir.varM, Mir.conM, Mir.op2M, Mir.op1M, Mir.tstM, Mir.andM, Mir.orM, Mir.notM, Mir.andT, Mir.orT, Mir.notT, Mir.iteM, Mir.chM, Mir.biM, Mir.isM, Mir.callM, Mir.callC, Mir.callN, Mir.argsM, Mir.O.bind, Mir.rd, Mir.rds, Mir.pures, Mir.tupM, Mir.lstM, Mir.nlsM, Mir.slM, Mir.noP, Mir.someP, Mir.slG, Mir.lcM, Mir.nlcM, Mir.wipeE, Mir.seqI, Mir.rng1I, Mir.rng2I, Mir.zpBI, Mir.seqU, Mir.strI, Mir.forM, Mir.setM, Mir.setC, Mir.parsM, Mir.setUs, Mir.meM, Mir.joinG, Mir.splG, Mir.lenG, Mir.intG, Mir.strG, Mir.listG, Mir.tupleG, Mir.isdic, Mir.isE, Mir.ixG, Mir.addG, Mir.subG, Mir.mulG, Mir.mulOk, Mir.fdivG, Mir.modG, Mir.powG, Mir.negG, Mir.ltG, Mir.leG, Mir.gtG, Mir.geG, Mir.isG, Mir.isNotG, Mir.isNon, Mir.env0, Mir.ins1, Mir.run0, Mir.run1, Mir.runN, Mir.frz, Mir.nxtM, Mir.unM, Mir.appM, Mir.isLst, Mir.kmIx, Mir.kmIn, Mir.scpM, Mir.lowU, e1, e2, a, b, numD]
        | bl b => simp [Mir.seqM, Mir.retM, Mir.retNM, Mir.drpM, Mir.asgM, Mir.ifM, Mir.toS, Mir.namG, Mir.tupG, Mir.allG, Mir.lsuG, Mir.varM, Mir.conM, Mir.op2M, Mir.op1M, Mir.tstM, Mir.andM, Mir.orM, Mir.notM, Mir.andT, Mir.orT, Mir.notT, Mir.iteM, Mir.chM, Mir.biM, Mir.isM, Mir.callM, Mir.callC, Mir.callN, Mir.argsM, Mir.O.bind, Mir.rd, Mir.rds, Mir.pures, Mir.tupM, Mir.lstM, Mir.nlsM, Mir.slM, Mir.noP, Mir.someP, Mir.slG, Mir.lcM, Mir.nlcM, Mir.wipeE, Mir.seqI, Mir.rng1I, Mir.rng2I, Mir.zpBI, Mir.seqU, Mir.strI, Mir.forM, Mir.setM, Mir.setC, Mir.parsM, Mir.setUs, Mir.meM, Mir.joinG, Mir.splG, Mir.lenG, Mir.intG, Mir.strG, Mir.listG, Mir.tupleG, Mir.isdic, Mir.isE, Mir.ixG, Mir.addG, Mir.subG, Mir.mulG, Mir.mulOk, Mir.fdivG, Mir.modG, Mir.powG, Mir.negG, Mir.ltG, Mir.leG, Mir.gtG, Mir.geG, Mir.isG, Mir.isNotG, Mir.isNon, Mir.env0, Mir.ins1, Mir.run0, Mir.run1, Mir.runN, Mir.frz, Mir.nxtM, Mir.unM, Mir.appM, Mir.isLst, Mir.kmIx, Mir.kmIn, Mir.scpM, Mir.lowU, isnum_bl, numD]
        | _ => exact hd.elim
      have hb : blsOf (ds.map fun d => D.bl (numD d)) = some (ds.map numD) := by
        have := bls_of (ds.map numD)
        rw [List.map_map] at this
        exact this
      simp [F_is_sign_of, m_is_sign_of, Mir.seqM, Mir.retM, Mir.retNM, Mir.drpM, Mir.asgM, Mir.ifM, Mir.toS, Mir.namG, Mir.tupG, Mir.allG, Mir.lsuG, Mir.varM, Mir.conM, Mir.op2M, Mir.op1M, Mir.tstM, Mir.andM, Mir.orM, Mir.notM, Mir.andT, Mir.orT, Mir.notT, Mir.iteM, Mir.chM, Mir.biM, Mir.isM, Mir.callM, Mir.callC, Mir.callN, Mir.argsM, Mir.O.bind, Mir.rd, Mir.rds, Mir.pures, Mir.tupM, Mir.lstM, Mir.nlsM, Mir.slM, Mir.noP, Mir.someP, Mir.slG, Mir.lcM, Mir.nlcM, Mir.wipeE, Mir.seqI, Mir.rng1I, Mir.rng2I, Mir.zpBI, Mir.seqU, Mir.strI, Mir.forM, Mir.setM, Mir.setC, Mir.parsM, Mir.setUs, Mir.meM, Mir.joinG, Mir.splG, Mir.lenG, Mir.intG, Mir.strG, Mir.listG, Mir.tupleG, Mir.isdic, Mir.isE, Mir.ixG, Mir.addG, Mir.subG, Mir.mulG, Mir.mulOk, Mir.fdivG, Mir.modG, Mir.powG, Mir.negG, Mir.ltG, Mir.leG, Mir.gtG, Mir.geG, Mir.isG, Mir.isNotG, Mir.isNon, Mir.env0, Mir.ins1, Mir.run0, Mir.run1, Mir.runN, Mir.frz, Mir.nxtM, Mir.unM, Mir.appM, Mir.isLst, Mir.kmIx, Mir.kmIn, Mir.scpM, Mir.lowU, isS, h4, neG_int, h1, big, Mir.allB, hb, List.all_map]
    · have : ((ds.length : Int) == 4) = false := beq_eq_false_iff_ne.mpr (by omega)
      simp [F_is_sign_of, m_is_sign_of, Mir.seqM, Mir.retM, Mir.retNM, Mir.drpM, Mir.asgM, Mir.ifM, Mir.toS, Mir.namG, Mir.tupG, Mir.allG, Mir.lsuG, Mir.varM, Mir.conM, Mir.op2M, Mir.op1M, Mir.tstM, Mir.andM, Mir.orM, Mir.notM, Mir.andT, Mir.orT, Mir.notT, Mir.iteM, Mir.chM, Mir.biM, Mir.isM, Mir.callM, Mir.callC, Mir.callN, Mir.argsM, Mir.O.bind, Mir.rd, Mir.rds, Mir.pures, Mir.tupM, Mir.lstM, Mir.nlsM, Mir.slM, Mir.noP, Mir.someP, Mir.slG, Mir.lcM, Mir.nlcM, Mir.wipeE, Mir.seqI, Mir.rng1I, Mir.rng2I, Mir.zpBI, Mir.seqU, Mir.strI, Mir.forM, Mir.setM, Mir.setC, Mir.parsM, Mir.setUs, Mir.meM, Mir.joinG, Mir.splG, Mir.lenG, Mir.intG, Mir.strG, Mir.listG, Mir.tupleG, Mir.isdic, Mir.isE, Mir.ixG, Mir.addG, Mir.subG, Mir.mulG, Mir.mulOk, Mir.fdivG, Mir.modG, Mir.powG, Mir.negG, Mir.ltG, Mir.leG, Mir.gtG, Mir.geG, Mir.isG, Mir.isNotG, Mir.isNon, Mir.env0, Mir.ins1, Mir.run0, Mir.run1, Mir.runN, Mir.frz, Mir.nxtM, Mir.unM, Mir.appM, Mir.isLst, Mir.kmIx, Mir.kmIn, Mir.scpM, Mir.lowU, isS, h4, neG_int, this]
  | _ => exact h.elim
theorem is_sign_ok {v : D} (h : okS v) : F_is_sign [v] = .ok (.bl (isS v)) := by
  have := is_sign_of_ok h
  simp [F_is_sign, m_is_sign, Mir.seqM, Mir.retM, Mir.retNM, Mir.drpM, Mir.asgM, Mir.ifM, Mir.toS, Mir.namG, Mir.tupG, Mir.allG, Mir.lsuG, Mir.varM, Mir.conM, Mir.op2M, Mir.op1M, Mir.tstM, Mir.andM, Mir.orM, Mir.notM, Mir.andT, Mir.orT, Mir.notT, Mir.iteM, Mir.chM, Mir.biM, Mir.isM, Mir.callM, Mir.callC, Mir.callN, Mir.argsM, Mir.O.bind, Mir.rd, Mir.rds, Mir.pures, Mir.tupM, Mir.lstM, Mir.nlsM, Mir.slM, Mir.noP, Mir.someP, Mir.slG, Mir.lcM, Mir.nlcM, Mir.wipeE, Mir.seqI, Mir.rng1I, Mir.rng2I, Mir.zpBI, Mir.seqU, Mir.strI, Mir.forM, Mir.setM, Mir.setC, Mir.parsM, Mir.setUs, Mir.meM, Mir.joinG, Mir.splG, Mir.lenG, Mir.intG, Mir.strG, Mir.listG, Mir.tupleG, Mir.isdic, Mir.isE, Mir.ixG, Mir.addG, Mir.subG, Mir.mulG, Mir.mulOk, Mir.fdivG, Mir.modG, Mir.powG, Mir.negG, Mir.ltG, Mir.leG, Mir.gtG, Mir.geG, Mir.isG, Mir.isNotG, Mir.isNon, Mir.env0, Mir.ins1, Mir.run0, Mir.run1, Mir.runN, Mir.frz, Mir.nxtM, Mir.unM, Mir.appM, Mir.isLst, Mir.kmIx, Mir.kmIn, Mir.scpM, Mir.lowU, this]
/-- a search with an early answer -/
theorem forL_find {g : MG} {f : MS} {S : Sto} (I : Mir.Env → Prop) (bad : D → Bool) (r : U) : ∀ (ds : List D) (ρ : Mir.Env), I ρ →
    (∀ d ∈ ds, ∀ ρ, I ρ → ∃ ρ1, g (.d d) ρ S = some (ρ1, S) ∧ (bad d = true → f ρ1 S = .rt r S) ∧ (bad d = false → ∃ ρ2, f ρ1 S = .nx ρ2 S ∧ I ρ2)) →
    (ds.any bad = true → forL g f ds ρ S = .rt r S) ∧ (ds.any bad = false → ∃ ρ2, forL g f ds ρ S = .nx ρ2 S ∧ I ρ2)
  | [], ρ, hI, _ => ⟨fun h => (Bool.false_ne_true h).elim, fun _ => ⟨ρ, rfl, hI⟩⟩
  | d :: ds, ρ, hI, h => by
    obtain ⟨ρ1, h1, h2, h3⟩ := h d List.mem_cons_self ρ hI
    cases hb : bad d with
    | true =>
      refine ⟨fun _ => by simp only [forL, h1, h2 hb], fun z => ?_⟩
      rw [List.any_cons, hb] at z
      cases z
    | false =>
      obtain ⟨ρ2, h4, h5⟩ := h3 hb
      obtain ⟨i1, i2⟩ := forL_find I bad r ds ρ2 h5 fun x hx => h x (List.mem_cons_of_mem _ hx)
      rw [List.any_cons, hb, Bool.false_or]
      refine ⟨fun z => by simp only [forL, h1, h4]; exact i1 z, fun z => ?_⟩
      obtain ⟨ρ3, i3, i4⟩ := i2 z
      exact ⟨ρ3, by simp only [forL, h1, h4]; exact i3, i4⟩
theorem risB_any (n : Int) : risB n = !(lots.any fun i => pows.any fun p => bitI n i && (i / p % 2 == 0 && !bitI n (i + p))) := by
  have e1 : ∀ i, (!(pows.any fun p => bitI n i && (i / p % 2 == 0 && !bitI n (i + p)))) = (!bitI n i || (pows.all fun p => !(i / p % 2 == 0) || bitI n (i + p))) := fun i => by
    cases bitI n i <;> simp [pows]
  rw [List.not_any_eq_all_not]
  simp only [e1]
  unfold risB risL
  simp only [List.all_flatMap, List.all_map, List.all_filter]
  rfl
def at2 (f : D → D → Bool) : D → D → Bool := f
def badP (n : Int) (i : D) (p : D) : Bool := match i, p with
  | .int i, .int p => bitI n i.toNat && (i.toNat / p.toNat % 2 == 0 && !bitI n (i.toNat + p.toNat))
  | _, _ => false
def inB : MS := (ifM (andT (tstM (callM F__law_figure [(varM 1), (varM 2)])) (andT (tstM (op2M eqG (op2M modG (op2M fdivG (varM 2) (varM 3)) (conM (.int 2))) (conM (.int 0)))) (notT (tstM (callM F__law_figure [(varM 1), (op2M addG (varM 2) (varM 3))]))))) (retM (conM (.bl false))) nxtM)
theorem inB_ok (v : D) (n : Int) (i : Nat) (hi : i ∈ lots) : ∀ (ρ : Mir.Env), (∃ x3, ρ = [some (.d v), some (.d (.int n)), some (.d (nI i)), x3]) →
    ((pows.map nI).any (badP n (nI i)) = true → forL (namG 3) inB (pows.map nI) ρ [] = .rt (.d (.bl false)) []) ∧ ((pows.map nI).any (badP n (nI i)) = false → ∃ ρ2, forL (namG 3) inB (pows.map nI) ρ [] = .nx ρ2 [] ∧ ∃ x3, ρ2 = [some (.d v), some (.d (.int n)), some (.d (nI i)), x3]) := fun ρ hρ =>
  forL_find (fun ρ => ∃ x3, ρ = [some (.d v), some (.d (.int n)), some (.d (nI i)), x3]) (badP n (nI i)) (.d (.bl false)) (pows.map nI) ρ hρ fun d hd ρ hr => by
    obtain ⟨p, hp, rfl⟩ := List.mem_map.mp hd
    obtain ⟨x3, rfl⟩ := hr
    obtain ⟨k1, k2, k3, k4⟩ := pow_ok i hi p hp
    have f1 := lfigure_ok n i (lots_lt hi)
    have hbd : badP n (nI i) (nI p) = (bitI n i && (i / p % 2 == 0 && !bitI n (i + p))) := rfl
    rw [hbd]
    refine ⟨_, rfl, ?_, ?_⟩
    · intro z
      simp only [Bool.and_eq_true] at z
      have f2 := lfigure_ok n (i + p) (k4 z.2.1)
      simp at f2
      have z3 : bitI n (i + p) = false := by have := z.2.2; simpa using this
      have z2 : ((i : Int) / (p : Int) % 2 == 0) = true := by rw [k3]; exact z.2.1
      simp [inB, Mir.seqM, Mir.retM, Mir.retNM, Mir.drpM, Mir.asgM, Mir.ifM, Mir.toS, Mir.namG, Mir.tupG, Mir.allG, Mir.lsuG, Mir.varM, Mir.conM, Mir.op2M, Mir.op1M, Mir.tstM, Mir.andM, Mir.orM, Mir.notM, Mir.andT, Mir.orT, Mir.notT, Mir.iteM, Mir.chM, Mir.biM, Mir.isM, Mir.callM, Mir.callC, Mir.callN, Mir.argsM, Mir.O.bind, Mir.rd, Mir.rds, Mir.pures, Mir.tupM, Mir.lstM, Mir.nlsM, Mir.slM, Mir.noP, Mir.someP, Mir.slG, Mir.lcM, Mir.nlcM, Mir.wipeE, Mir.seqI, Mir.rng1I, Mir.rng2I, Mir.zpBI, Mir.seqU, Mir.strI, Mir.forM, Mir.setM, Mir.setC, Mir.parsM, Mir.setUs, Mir.meM, Mir.joinG, Mir.splG, Mir.lenG, Mir.intG, Mir.strG, Mir.listG, Mir.tupleG, Mir.isdic, Mir.isE, Mir.ixG, Mir.addG, Mir.subG, Mir.mulG, Mir.mulOk, Mir.fdivG, Mir.modG, Mir.powG, Mir.negG, Mir.ltG, Mir.leG, Mir.gtG, Mir.geG, Mir.isG, Mir.isNotG, Mir.isNon, Mir.env0, Mir.ins1, Mir.run0, Mir.run1, Mir.runN, Mir.frz, Mir.nxtM, Mir.unM, Mir.appM, Mir.isLst, Mir.kmIx, Mir.kmIn, Mir.scpM, Mir.lowU, nI, f1, k1, k2, eqG_int, z.1, z2, f2, z3]
    · intro z
      refine ⟨[some (.d v), some (.d (.int n)), some (.d (nI i)), some (.d (nI p))], ?_, _, rfl⟩
      cases hb : bitI n i with
      | false => simp [inB, Mir.seqM, Mir.retM, Mir.retNM, Mir.drpM, Mir.asgM, Mir.ifM, Mir.toS, Mir.namG, Mir.tupG, Mir.allG, Mir.lsuG, Mir.varM, Mir.conM, Mir.op2M, Mir.op1M, Mir.tstM, Mir.andM, Mir.orM, Mir.notM, Mir.andT, Mir.orT, Mir.notT, Mir.iteM, Mir.chM, Mir.biM, Mir.isM, Mir.callM, Mir.callC, Mir.callN, Mir.argsM, Mir.O.bind, Mir.rd, Mir.rds, Mir.pures, Mir.tupM, Mir.lstM, Mir.nlsM, Mir.slM, Mir.noP, Mir.someP, Mir.slG, Mir.lcM, Mir.nlcM, Mir.wipeE, Mir.seqI, Mir.rng1I, Mir.rng2I, Mir.zpBI, Mir.seqU, Mir.strI, Mir.forM, Mir.setM, Mir.setC, Mir.parsM, Mir.setUs, Mir.meM, Mir.joinG, Mir.splG, Mir.lenG, Mir.intG, Mir.strG, Mir.listG, Mir.tupleG, Mir.isdic, Mir.isE, Mir.ixG, Mir.addG, Mir.subG, Mir.mulG, Mir.mulOk, Mir.fdivG, Mir.modG, Mir.powG, Mir.negG, Mir.ltG, Mir.leG, Mir.gtG, Mir.geG, Mir.isG, Mir.isNotG, Mir.isNon, Mir.env0, Mir.ins1, Mir.run0, Mir.run1, Mir.runN, Mir.frz, Mir.nxtM, Mir.unM, Mir.appM, Mir.isLst, Mir.kmIx, Mir.kmIn, Mir.scpM, Mir.lowU, nI, f1, hb]
      | true =>
        cases hq : (i / p % 2 == 0) with
        | false =>
          have z2 : ((i : Int) / (p : Int) % 2 == 0) = false := by rw [k3]; exact hq
          simp [inB, Mir.seqM, Mir.retM, Mir.retNM, Mir.drpM, Mir.asgM, Mir.ifM, Mir.toS, Mir.namG, Mir.tupG, Mir.allG, Mir.lsuG, Mir.varM, Mir.conM, Mir.op2M, Mir.op1M, Mir.tstM, Mir.andM, Mir.orM, Mir.notM, Mir.andT, Mir.orT, Mir.notT, Mir.iteM, Mir.chM, Mir.biM, Mir.isM, Mir.callM, Mir.callC, Mir.callN, Mir.argsM, Mir.O.bind, Mir.rd, Mir.rds, Mir.pures, Mir.tupM, Mir.lstM, Mir.nlsM, Mir.slM, Mir.noP, Mir.someP, Mir.slG, Mir.lcM, Mir.nlcM, Mir.wipeE, Mir.seqI, Mir.rng1I, Mir.rng2I, Mir.zpBI, Mir.seqU, Mir.strI, Mir.forM, Mir.setM, Mir.setC, Mir.parsM, Mir.setUs, Mir.meM, Mir.joinG, Mir.splG, Mir.lenG, Mir.intG, Mir.strG, Mir.listG, Mir.tupleG, Mir.isdic, Mir.isE, Mir.ixG, Mir.addG, Mir.subG, Mir.mulG, Mir.mulOk, Mir.fdivG, Mir.modG, Mir.powG, Mir.negG, Mir.ltG, Mir.leG, Mir.gtG, Mir.geG, Mir.isG, Mir.isNotG, Mir.isNon, Mir.env0, Mir.ins1, Mir.run0, Mir.run1, Mir.runN, Mir.frz, Mir.nxtM, Mir.unM, Mir.appM, Mir.isLst, Mir.kmIx, Mir.kmIn, Mir.scpM, Mir.lowU, nI, f1, hb, k1, k2, eqG_int, z2]
        | true =>
          have z2 : ((i : Int) / (p : Int) % 2 == 0) = true := by rw [k3]; exact hq
          have f2 := lfigure_ok n (i + p) (k4 hq)
          simp at f2
          have z3 : bitI n (i + p) = true := by rw [hb, hq] at z; simpa using z
          simp [inB, Mir.seqM, Mir.retM, Mir.retNM, Mir.drpM, Mir.asgM, Mir.ifM, Mir.toS, Mir.namG, Mir.tupG, Mir.allG, Mir.lsuG, Mir.varM, Mir.conM, Mir.op2M, Mir.op1M, Mir.tstM, Mir.andM, Mir.orM, Mir.notM, Mir.andT, Mir.orT, Mir.notT, Mir.iteM, Mir.chM, Mir.biM, Mir.isM, Mir.callM, Mir.callC, Mir.callN, Mir.argsM, Mir.O.bind, Mir.rd, Mir.rds, Mir.pures, Mir.tupM, Mir.lstM, Mir.nlsM, Mir.slM, Mir.noP, Mir.someP, Mir.slG, Mir.lcM, Mir.nlcM, Mir.wipeE, Mir.seqI, Mir.rng1I, Mir.rng2I, Mir.zpBI, Mir.seqU, Mir.strI, Mir.forM, Mir.setM, Mir.setC, Mir.parsM, Mir.setUs, Mir.meM, Mir.joinG, Mir.splG, Mir.lenG, Mir.intG, Mir.strG, Mir.listG, Mir.tupleG, Mir.isdic, Mir.isE, Mir.ixG, Mir.addG, Mir.subG, Mir.mulG, Mir.mulOk, Mir.fdivG, Mir.modG, Mir.powG, Mir.negG, Mir.ltG, Mir.leG, Mir.gtG, Mir.geG, Mir.isG, Mir.isNotG, Mir.isNon, Mir.env0, Mir.ins1, Mir.run0, Mir.run1, Mir.runN, Mir.frz, Mir.nxtM, Mir.unM, Mir.appM, Mir.isLst, Mir.kmIx, Mir.kmIn, Mir.scpM, Mir.lowU, nI, f1, hb, k1, k2, eqG_int, z2, f2, z3]

def midB : MS := (Mir.forM (seqI (tupM [(conM (.int 1)), (conM (.int 2)), (conM (.int 4)), (conM (.int 8))])) (namG 3) inB)
def outB : MS := (seqM (ifM (notT (tstM (callM F__law_int [(varM 1), (conM (.int 0)), (conM (.int 65535))]))) (retM (conM (.bl false))) nxtM)
    (Mir.forM (rng1I (conM (.int 16))) (namG 2) midB))
def badO (n : Int) (i : D) : Bool := (pows.map nI).any (badP n i)
theorem risB_bad (n : Int) : (lots.map nI).any (badO n) = !risB n := by
  rw [risB_any, Bool.not_not, List.any_map]
  congr 1
theorem midB_ok (v : D) (n : Int) : ∀ (ρ : Mir.Env), (∃ x2 x3, ρ = [some (.d v), some (.d (.int n)), x2, x3]) →
    ((lots.map nI).any (badO n) = true → forL (namG 2) midB (lots.map nI) ρ [] = .rt (.d (.bl false)) []) ∧ ((lots.map nI).any (badO n) = false → ∃ ρ2, forL (namG 2) midB (lots.map nI) ρ [] = .nx ρ2 [] ∧ ∃ x2 x3, ρ2 = [some (.d v), some (.d (.int n)), x2, x3]) := fun ρ hρ =>
  forL_find (fun ρ => ∃ x2 x3, ρ = [some (.d v), some (.d (.int n)), x2, x3]) (badO n) (.d (.bl false)) (lots.map nI) ρ hρ fun d hd ρ hr => by
    obtain ⟨i, hi, rfl⟩ := List.mem_map.mp hd
    obtain ⟨x2, x3, rfl⟩ := hr
    obtain ⟨q1, q2⟩ := inB_ok v n i hi [some (.d v), some (.d (.int n)), some (.d (nI i)), x3] ⟨x3, rfl⟩
    rw [← pows_n] at q1 q2
    have hb : badO n (nI i) = [D.int 1, .int 2, .int 4, .int 8].any (badP n (nI i)) := rfl
    rw [hb]
    refine ⟨_, rfl, fun z => ?_, fun z => ?_⟩
    · have := q1 z
      simp [midB, Mir.seqM, Mir.retM, Mir.retNM, Mir.drpM, Mir.asgM, Mir.ifM, Mir.toS, Mir.namG, Mir.tupG, Mir.allG, Mir.lsuG, Mir.varM, Mir.conM, Mir.op2M, Mir.op1M, Mir.tstM, Mir.andM, Mir.orM, Mir.notM, Mir.andT, Mir.orT, Mir.notT, Mir.iteM, Mir.chM, Mir.biM, Mir.isM, Mir.callM, Mir.callC, Mir.callN, Mir.argsM, Mir.O.bind, Mir.rd, Mir.rds, Mir.pures, Mir.tupM, Mir.lstM, Mir.nlsM, Mir.slM, Mir.noP, Mir.someP, Mir.slG, Mir.lcM, Mir.nlcM, Mir.wipeE, Mir.seqI, Mir.rng1I, Mir.rng2I, Mir.zpBI, Mir.seqU, Mir.strI, Mir.forM, Mir.setM, Mir.setC, Mir.parsM, Mir.setUs, Mir.meM, Mir.joinG, Mir.splG, Mir.lenG, Mir.intG, Mir.strG, Mir.listG, Mir.tupleG, Mir.isdic, Mir.isE, Mir.ixG, Mir.addG, Mir.subG, Mir.mulG, Mir.mulOk, Mir.fdivG, Mir.modG, Mir.powG, Mir.negG, Mir.ltG, Mir.leG, Mir.gtG, Mir.geG, Mir.isG, Mir.isNotG, Mir.isNon, Mir.env0, Mir.ins1, Mir.run0, Mir.run1, Mir.runN, Mir.frz, Mir.nxtM, Mir.unM, Mir.appM, Mir.isLst, Mir.kmIx, Mir.kmIn, Mir.scpM, Mir.lowU]
      exact this
    · obtain ⟨ρ2, q3, x3', rfl⟩ := q2 z
      refine ⟨_, ?_, some (.d (nI i)), x3', rfl⟩
      simp [midB, Mir.seqM, Mir.retM, Mir.retNM, Mir.drpM, Mir.asgM, Mir.ifM, Mir.toS, Mir.namG, Mir.tupG, Mir.allG, Mir.lsuG, Mir.varM, Mir.conM, Mir.op2M, Mir.op1M, Mir.tstM, Mir.andM, Mir.orM, Mir.notM, Mir.andT, Mir.orT, Mir.notT, Mir.iteM, Mir.chM, Mir.biM, Mir.isM, Mir.callM, Mir.callC, Mir.callN, Mir.argsM, Mir.O.bind, Mir.rd, Mir.rds, Mir.pures, Mir.tupM, Mir.lstM, Mir.nlsM, Mir.slM, Mir.noP, Mir.someP, Mir.slG, Mir.lcM, Mir.nlcM, Mir.wipeE, Mir.seqI, Mir.rng1I, Mir.rng2I, Mir.zpBI, Mir.seqU, Mir.strI, Mir.forM, Mir.setM, Mir.setC, Mir.parsM, Mir.setUs, Mir.meM, Mir.joinG, Mir.splG, Mir.lenG, Mir.intG, Mir.strG, Mir.listG, Mir.tupleG, Mir.isdic, Mir.isE, Mir.ixG, Mir.addG, Mir.subG, Mir.mulG, Mir.mulOk, Mir.fdivG, Mir.modG, Mir.powG, Mir.negG, Mir.ltG, Mir.leG, Mir.gtG, Mir.geG, Mir.isG, Mir.isNotG, Mir.isNon, Mir.env0, Mir.ins1, Mir.run0, Mir.run1, Mir.runN, Mir.frz, Mir.nxtM, Mir.unM, Mir.appM, Mir.isLst, Mir.kmIx, Mir.kmIn, Mir.scpM, Mir.lowU]
      exact q3
theorem outB_ok (v : D) (d : D) (hd : numT d) (x2 x3 : Option U) : (numD d = false → outB [some (.d v), some (.d d), x2, x3] [] = .rt (.d (.bl false)) []) ∧ (numD d = true → ∃ y2 y3, outB [some (.d v), some (.d d), x2, x3] [] = .nx [some (.d v), some (.d d), y2, y3] []) := by
  cases d with
  | bl b => exact ⟨fun _ => by simp [outB, Mir.seqM, Mir.retM, Mir.retNM, Mir.drpM, Mir.asgM, Mir.ifM, Mir.toS, Mir.namG, Mir.tupG, Mir.allG, Mir.lsuG, Mir.varM, Mir.conM, Mir.op2M, Mir.op1M, Mir.tstM, Mir.andM, Mir.orM, Mir.notM, Mir.andT, Mir.orT, Mir.notT, Mir.iteM, Mir.chM, Mir.biM, Mir.isM, Mir.callM, Mir.callC, Mir.callN, Mir.argsM, Mir.O.bind, Mir.rd, Mir.rds, Mir.pures, Mir.tupM, Mir.lstM, Mir.nlsM, Mir.slM, Mir.noP, Mir.someP, Mir.slG, Mir.lcM, Mir.nlcM, Mir.wipeE, Mir.seqI, Mir.rng1I, Mir.rng2I, Mir.zpBI, Mir.seqU, Mir.strI, Mir.forM, Mir.setM, Mir.setC, Mir.parsM, Mir.setUs, Mir.meM, Mir.joinG, Mir.splG, Mir.lenG, Mir.intG, Mir.strG, Mir.listG, Mir.tupleG, Mir.isdic, Mir.isE, Mir.ixG, Mir.addG, Mir.subG, Mir.mulG, Mir.mulOk, Mir.fdivG, Mir.modG, Mir.powG, Mir.negG, Mir.ltG, Mir.leG, Mir.gtG, Mir.geG, Mir.isG, Mir.isNotG, Mir.isNon, Mir.env0, Mir.ins1, Mir.run0, Mir.run1, Mir.runN, Mir.frz, Mir.nxtM, Mir.unM, Mir.appM, Mir.isLst, Mir.kmIx, Mir.kmIn, Mir.scpM, Mir.lowU, lint_bl], fun z => by cases z⟩
  | int n =>
    have e1 := lint_int n
    obtain ⟨q1, q2⟩ := midB_ok v n [some (.d v), some (.d (.int n)), x2, x3] ⟨x2, x3, rfl⟩
    rw [risB_bad] at q1 q2
    rw [← lots_n] at q1 q2
    refine ⟨fun z => ?_, fun z => ?_⟩
    · by_cases a : 0 ≤ n
      · by_cases b : n ≤ 65535
        · have hr : risB n = false := by simpa [numD, a, b] using z
          have := q1 (by rw [hr]; rfl)
          simp [outB, Mir.seqM, Mir.retM, Mir.retNM, Mir.drpM, Mir.asgM, Mir.ifM, Mir.toS, Mir.namG, Mir.tupG, Mir.allG, Mir.lsuG, Mir.varM, Mir.conM, Mir.op2M, Mir.op1M, Mir.tstM, Mir.andM, Mir.orM, Mir.notM, Mir.andT, Mir.orT, Mir.notT, Mir.iteM, Mir.chM, Mir.biM, Mir.isM, Mir.callM, Mir.callC, Mir.callN, Mir.argsM, Mir.O.bind, Mir.rd, Mir.rds, Mir.pures, Mir.tupM, Mir.lstM, Mir.nlsM, Mir.slM, Mir.noP, Mir.someP, Mir.slG, Mir.lcM, Mir.nlcM, Mir.wipeE, Mir.seqI, Mir.rng1I, Mir.rng2I, Mir.zpBI, Mir.seqU, Mir.strI, Mir.forM, Mir.setM, Mir.setC, Mir.parsM, Mir.setUs, Mir.meM, Mir.joinG, Mir.splG, Mir.lenG, Mir.intG, Mir.strG, Mir.listG, Mir.tupleG, Mir.isdic, Mir.isE, Mir.ixG, Mir.addG, Mir.subG, Mir.mulG, Mir.mulOk, Mir.fdivG, Mir.modG, Mir.powG, Mir.negG, Mir.ltG, Mir.leG, Mir.gtG, Mir.geG, Mir.isG, Mir.isNotG, Mir.isNon, Mir.env0, Mir.ins1, Mir.run0, Mir.run1, Mir.runN, Mir.frz, Mir.nxtM, Mir.unM, Mir.appM, Mir.isLst, Mir.kmIx, Mir.kmIn, Mir.scpM, Mir.lowU, e1, a, b, List.range, List.range.loop]
          exact this
        · simp [outB, Mir.seqM, Mir.retM, Mir.retNM, Mir.drpM, Mir.asgM, Mir.ifM, Mir.toS, Mir.namG, Mir.tupG, Mir.allG, Mir.lsuG, Mir.varM, Mir.conM, Mir.op2M, Mir.op1M, Mir.tstM, Mir.andM, Mir.orM, Mir.notM, Mir.andT, Mir.orT, Mir.notT, Mir.iteM, Mir.chM, Mir.biM, Mir.isM, Mir.callM, Mir.callC, Mir.callN, Mir.argsM, Mir.O.bind, Mir.rd, Mir.rds, Mir.pures, Mir.tupM, Mir.lstM, Mir.nlsM, Mir.slM, Mir.noP, Mir.someP, Mir.slG, Mir.lcM, Mir.nlcM, Mir.wipeE, Mir.seqI, Mir.rng1I, Mir.rng2I, Mir.zpBI, Mir.seqU, Mir.strI, Mir.forM, Mir.setM, Mir.setC, Mir.parsM, Mir.setUs, Mir.meM, Mir.joinG, Mir.splG, Mir.lenG, Mir.intG, Mir.strG, Mir.listG, Mir.tupleG, Mir.isdic, Mir.isE, Mir.ixG, Mir.addG, Mir.subG, Mir.mulG, Mir.mulOk, Mir.fdivG, Mir.modG, Mir.powG, Mir.negG, Mir.ltG, Mir.leG, Mir.gtG, Mir.geG, Mir.isG, Mir.isNotG, Mir.isNon, Mir.env0, Mir.ins1, Mir.run0, Mir.run1, Mir.runN, Mir.frz, Mir.nxtM, Mir.unM, Mir.appM, Mir.isLst, Mir.kmIx, Mir.kmIn, Mir.scpM, Mir.lowU, e1, a, b]
      · simp [outB, Mir.seqM, Mir.retM, Mir.retNM, Mir.drpM, Mir.asgM, Mir.ifM, Mir.toS, Mir.namG, Mir.tupG, Mir.allG, Mir.lsuG, Mir.varM, Mir.conM, Mir.op2M, Mir.op1M, Mir.tstM, Mir.andM, Mir.orM, Mir.notM, Mir.andT, Mir.orT, Mir.notT, Mir.iteM, Mir.chM, Mir.biM, Mir.isM, Mir.callM, Mir.callC, Mir.callN, Mir.argsM, Mir.O.bind, Mir.rd, Mir.rds, Mir.pures, Mir.tupM, Mir.lstM, Mir.nlsM, Mir.slM, Mir.noP, Mir.someP, Mir.slG, Mir.lcM, Mir.nlcM, Mir.wipeE, Mir.seqI, Mir.rng1I, Mir.rng2I, Mir.zpBI, Mir.seqU, Mir.strI, Mir.forM, Mir.setM, Mir.setC, Mir.parsM, Mir.setUs, Mir.meM, Mir.joinG, Mir.splG, Mir.lenG, Mir.intG, Mir.strG, Mir.listG, Mir.tupleG, Mir.isdic, Mir.isE, Mir.ixG, Mir.addG, Mir.subG, Mir.mulG, Mir.mulOk, Mir.fdivG, Mir.modG, Mir.powG, Mir.negG, Mir.ltG, Mir.leG, Mir.gtG, Mir.geG, Mir.isG, Mir.isNotG, Mir.isNon, Mir.env0, Mir.ins1, Mir.run0, Mir.run1, Mir.runN, Mir.frz, Mir.nxtM, Mir.unM, Mir.appM, Mir.isLst, Mir.kmIx, Mir.kmIn, Mir.scpM, Mir.lowU, e1, a]
    · simp only [numD, Bool.and_eq_true, decide_eq_true_eq] at z
      obtain ⟨a, b, hr⟩ := z
      obtain ⟨ρ2, q3, y2, y3, rfl⟩ := q2 (by rw [hr]; rfl)
      refine ⟨y2, y3, ?_⟩
      simp [outB, Mir.seqM, Mir.retM, Mir.retNM, Mir.drpM, Mir.asgM, Mir.ifM, Mir.toS, Mir.namG, Mir.tupG, Mir.allG, Mir.lsuG, Mir.varM, Mir.conM, Mir.op2M, Mir.op1M, Mir.tstM, Mir.andM, Mir.orM, Mir.notM, Mir.andT, Mir.orT, Mir.notT, Mir.iteM, Mir.chM, Mir.biM, Mir.isM, Mir.callM, Mir.callC, Mir.callN, Mir.argsM, Mir.O.bind, Mir.rd, Mir.rds, Mir.pures, Mir.tupM, Mir.lstM, Mir.nlsM, Mir.slM, Mir.noP, Mir.someP, Mir.slG, Mir.lcM, Mir.nlcM, Mir.wipeE, Mir.seqI, Mir.rng1I, Mir.rng2I, Mir.zpBI, Mir.seqU, Mir.strI, Mir.forM, Mir.setM, Mir.setC, Mir.parsM, Mir.setUs, Mir.meM, Mir.joinG, Mir.splG, Mir.lenG, Mir.intG, Mir.strG, Mir.listG, Mir.tupleG, Mir.isdic, Mir.isE, Mir.ixG, Mir.addG, Mir.subG, Mir.mulG, Mir.mulOk, Mir.fdivG, Mir.modG, Mir.powG, Mir.negG, Mir.ltG, Mir.leG, Mir.gtG, Mir.geG, Mir.isG, Mir.isNotG, Mir.isNon, Mir.env0, Mir.ins1, Mir.run0, Mir.run1, Mir.runN, Mir.frz, Mir.nxtM, Mir.unM, Mir.appM, Mir.isLst, Mir.kmIx, Mir.kmIn, Mir.scpM, Mir.lowU, e1, a, b, List.range, List.range.loop]
      exact q3
  | _ => exact hd.elim
theorem m_lis_eq : m__law_is_sign = (seqM (ifM (orT (notT (tstM (isM .tuple (varM 0)))) (tstM (op2M neG (biM lenG [(varM 0)]) (conM (.int 4))))) (retM (conM (.bl false))) nxtM)
    (seqM (Mir.forM (seqI (varM 0)) (namG 1) outB)
    (retM (conM (.bl true))))) := rfl
theorem law_is_sign_ok {v : D} (h : okS v) : F__law_is_sign [v] = .ok (.bl (isS v)) := by
  cases v with
  | non => simp [F__law_is_sign, m__law_is_sign, Mir.seqM, Mir.retM, Mir.retNM, Mir.drpM, Mir.asgM, Mir.ifM, Mir.toS, Mir.namG, Mir.tupG, Mir.allG, Mir.lsuG, Mir.varM, Mir.conM, Mir.op2M, Mir.op1M, Mir.tstM, Mir.andM, Mir.orM, Mir.notM, Mir.andT, Mir.orT, Mir.notT, Mir.iteM, Mir.chM, Mir.biM, Mir.isM, Mir.callM, Mir.callC, Mir.callN, Mir.argsM, Mir.O.bind, Mir.rd, Mir.rds, Mir.pures, Mir.tupM, Mir.lstM, Mir.nlsM, Mir.slM, Mir.noP, Mir.someP, Mir.slG, Mir.lcM, Mir.nlcM, Mir.wipeE, Mir.seqI, Mir.rng1I, Mir.rng2I, Mir.zpBI, Mir.seqU, Mir.strI, Mir.forM, Mir.setM, Mir.setC, Mir.parsM, Mir.setUs, Mir.meM, Mir.joinG, Mir.splG, Mir.lenG, Mir.intG, Mir.strG, Mir.listG, Mir.tupleG, Mir.isdic, Mir.isE, Mir.ixG, Mir.addG, Mir.subG, Mir.mulG, Mir.mulOk, Mir.fdivG, Mir.modG, Mir.powG, Mir.negG, Mir.ltG, Mir.leG, Mir.gtG, Mir.geG, Mir.isG, Mir.isNotG, Mir.isNon, Mir.env0, Mir.ins1, Mir.run0, Mir.run1, Mir.runN, Mir.frz, Mir.nxtM, Mir.unM, Mir.appM, Mir.isLst, Mir.kmIx, Mir.kmIn, Mir.scpM, Mir.lowU, isS]
  | lst ds => simp [F__law_is_sign, m__law_is_sign, Mir.seqM, Mir.retM, Mir.retNM, Mir.drpM, Mir.asgM, Mir.ifM, Mir.toS, Mir.namG, Mir.tupG, Mir.allG, Mir.lsuG, Mir.varM, Mir.conM, Mir.op2M, Mir.op1M, Mir.tstM, Mir.andM, Mir.orM, Mir.notM, Mir.andT, Mir.orT, Mir.notT, Mir.iteM, Mir.chM, Mir.biM, Mir.isM, Mir.callM, Mir.callC, Mir.callN, Mir.argsM, Mir.O.bind, Mir.rd, Mir.rds, Mir.pures, Mir.tupM, Mir.lstM, Mir.nlsM, Mir.slM, Mir.noP, Mir.someP, Mir.slG, Mir.lcM, Mir.nlcM, Mir.wipeE, Mir.seqI, Mir.rng1I, Mir.rng2I, Mir.zpBI, Mir.seqU, Mir.strI, Mir.forM, Mir.setM, Mir.setC, Mir.parsM, Mir.setUs, Mir.meM, Mir.joinG, Mir.splG, Mir.lenG, Mir.intG, Mir.strG, Mir.listG, Mir.tupleG, Mir.isdic, Mir.isE, Mir.ixG, Mir.addG, Mir.subG, Mir.mulG, Mir.mulOk, Mir.fdivG, Mir.modG, Mir.powG, Mir.negG, Mir.ltG, Mir.leG, Mir.gtG, Mir.geG, Mir.isG, Mir.isNotG, Mir.isNon, Mir.env0, Mir.ins1, Mir.run0, Mir.run1, Mir.runN, Mir.frz, Mir.nxtM, Mir.unM, Mir.appM, Mir.isLst, Mir.kmIx, Mir.kmIn, Mir.scpM, Mir.lowU, isS]
  | tup ds =>
    obtain ⟨h8, hn⟩ := h
    by_cases h4 : ds.length = 4
    · obtain ⟨q1, q2⟩ := forL_find (g := namG 1) (f := outB) (S := []) (fun ρ => ∃ x1 x2 x3, ρ = [some (.d (.tup ds)), x1, x2, x3]) (fun d => !numD d) (.d (.bl false)) ds [some (.d (.tup ds)), none, none, none] ⟨_, _, _, rfl⟩ fun d hd ρ hr => by
        obtain ⟨x1, x2, x3, rfl⟩ := hr
        obtain ⟨o1, o2⟩ := outB_ok (.tup ds) d (hn d hd) x2 x3
        refine ⟨_, rfl, fun z => o1 (by simpa using z), fun z => ?_⟩
        obtain ⟨y2, y3, o3⟩ := o2 (by simpa using z)
        exact ⟨_, o3, _, _, _, rfl⟩
      have e : isS (.tup ds) = !(ds.any fun d => !numD d) := by
        simp [isS, h4, List.all_eq_not_any_not]
      rw [e]
      cases hb : ds.any fun d => !numD d with
      | true =>
        have := q1 hb
        simp [F__law_is_sign, m_lis_eq, Mir.seqM, Mir.retM, Mir.retNM, Mir.drpM, Mir.asgM, Mir.ifM, Mir.toS, Mir.namG, Mir.tupG, Mir.allG, Mir.lsuG, Mir.varM, Mir.conM, Mir.op2M, Mir.op1M, Mir.tstM, Mir.andM, Mir.orM, Mir.notM, Mir.andT, Mir.orT, Mir.notT, Mir.iteM, Mir.chM, Mir.biM, Mir.isM, Mir.callM, Mir.callC, Mir.callN, Mir.argsM, Mir.O.bind, Mir.rd, Mir.rds, Mir.pures, Mir.tupM, Mir.lstM, Mir.nlsM, Mir.slM, Mir.noP, Mir.someP, Mir.slG, Mir.lcM, Mir.nlcM, Mir.wipeE, Mir.seqI, Mir.rng1I, Mir.rng2I, Mir.zpBI, Mir.seqU, Mir.strI, Mir.forM, Mir.setM, Mir.setC, Mir.parsM, Mir.setUs, Mir.meM, Mir.joinG, Mir.splG, Mir.lenG, Mir.intG, Mir.strG, Mir.listG, Mir.tupleG, Mir.isdic, Mir.isE, Mir.ixG, Mir.addG, Mir.subG, Mir.mulG, Mir.mulOk, Mir.fdivG, Mir.modG, Mir.powG, Mir.negG, Mir.ltG, Mir.leG, Mir.gtG, Mir.geG, Mir.isG, Mir.isNotG, Mir.isNon, Mir.env0, Mir.ins1, Mir.run0, Mir.run1, Mir.runN, Mir.frz, Mir.nxtM, Mir.unM, Mir.appM, Mir.isLst, Mir.kmIx, Mir.kmIn, Mir.scpM, Mir.lowU, h4, neG_int, this]
      | false =>
        obtain ⟨ρ2, q3, x1, x2, x3, rfl⟩ := q2 hb
        simp [F__law_is_sign, m_lis_eq, Mir.seqM, Mir.retM, Mir.retNM, Mir.drpM, Mir.asgM, Mir.ifM, Mir.toS, Mir.namG, Mir.tupG, Mir.allG, Mir.lsuG, Mir.varM, Mir.conM, Mir.op2M, Mir.op1M, Mir.tstM, Mir.andM, Mir.orM, Mir.notM, Mir.andT, Mir.orT, Mir.notT, Mir.iteM, Mir.chM, Mir.biM, Mir.isM, Mir.callM, Mir.callC, Mir.callN, Mir.argsM, Mir.O.bind, Mir.rd, Mir.rds, Mir.pures, Mir.tupM, Mir.lstM, Mir.nlsM, Mir.slM, Mir.noP, Mir.someP, Mir.slG, Mir.lcM, Mir.nlcM, Mir.wipeE, Mir.seqI, Mir.rng1I, Mir.rng2I, Mir.zpBI, Mir.seqU, Mir.strI, Mir.forM, Mir.setM, Mir.setC, Mir.parsM, Mir.setUs, Mir.meM, Mir.joinG, Mir.splG, Mir.lenG, Mir.intG, Mir.strG, Mir.listG, Mir.tupleG, Mir.isdic, Mir.isE, Mir.ixG, Mir.addG, Mir.subG, Mir.mulG, Mir.mulOk, Mir.fdivG, Mir.modG, Mir.powG, Mir.negG, Mir.ltG, Mir.leG, Mir.gtG, Mir.geG, Mir.isG, Mir.isNotG, Mir.isNon, Mir.env0, Mir.ins1, Mir.run0, Mir.run1, Mir.runN, Mir.frz, Mir.nxtM, Mir.unM, Mir.appM, Mir.isLst, Mir.kmIx, Mir.kmIn, Mir.scpM, Mir.lowU, h4, neG_int, q3]
    · have : ((ds.length : Int) == 4) = false := beq_eq_false_iff_ne.mpr (by omega)
      simp [F__law_is_sign, m__law_is_sign, Mir.seqM, Mir.retM, Mir.retNM, Mir.drpM, Mir.asgM, Mir.ifM, Mir.toS, Mir.namG, Mir.tupG, Mir.allG, Mir.lsuG, Mir.varM, Mir.conM, Mir.op2M, Mir.op1M, Mir.tstM, Mir.andM, Mir.orM, Mir.notM, Mir.andT, Mir.orT, Mir.notT, Mir.iteM, Mir.chM, Mir.biM, Mir.isM, Mir.callM, Mir.callC, Mir.callN, Mir.argsM, Mir.O.bind, Mir.rd, Mir.rds, Mir.pures, Mir.tupM, Mir.lstM, Mir.nlsM, Mir.slM, Mir.noP, Mir.someP, Mir.slG, Mir.lcM, Mir.nlcM, Mir.wipeE, Mir.seqI, Mir.rng1I, Mir.rng2I, Mir.zpBI, Mir.seqU, Mir.strI, Mir.forM, Mir.setM, Mir.setC, Mir.parsM, Mir.setUs, Mir.meM, Mir.joinG, Mir.splG, Mir.lenG, Mir.intG, Mir.strG, Mir.listG, Mir.tupleG, Mir.isdic, Mir.isE, Mir.ixG, Mir.addG, Mir.subG, Mir.mulG, Mir.mulOk, Mir.fdivG, Mir.modG, Mir.powG, Mir.negG, Mir.ltG, Mir.leG, Mir.gtG, Mir.geG, Mir.isG, Mir.isNotG, Mir.isNon, Mir.env0, Mir.ins1, Mir.run0, Mir.run1, Mir.runN, Mir.frz, Mir.nxtM, Mir.unM, Mir.appM, Mir.isLst, Mir.kmIx, Mir.kmIn, Mir.scpM, Mir.lowU, isS, h4, neG_int, this]
  | _ => exact h.elim

/-! ### signs that rise -/
def fmon (f : B2 → B2 → Bool) : Prop := ∀ x x' y y', Sg.le x x' → Sg.le y y' → f x y = true → f x' y' = true
theorem up1 {f : Bool → Bool} (h : f false = true → f true = true) : ∀ a b : Bool, (a = true → b = true) → f a = true → f b = true := by
  intro a b h1 h2
  cases a <;> cases b
  · exact h2
  · exact h h2
  · exact absurd (h1 rfl) Bool.false_ne_true
  · exact h2
theorem fmon_of {f : B2 → B2 → Bool} (h1 : ∀ b y, f (false, b) y = true → f (true, b) y = true) (h2 : ∀ a y, f (a, false) y = true → f (a, true) y = true) (h3 : ∀ x b, f x (false, b) = true → f x (true, b) = true) (h4 : ∀ x a, f x (a, false) = true → f x (a, true) = true) : fmon f := by
  intro x x' y y' hx hy h
  obtain ⟨a, b⟩ := x
  obtain ⟨a', b'⟩ := x'
  obtain ⟨c, d⟩ := y
  obtain ⟨c', d'⟩ := y'
  obtain ⟨k1, k2⟩ := hx
  obtain ⟨k3, k4⟩ := hy
  have s1 := up1 (f := fun z => f (z, b) (c, d)) (h1 b (c, d)) a a' k1 h
  have s2 := up1 (f := fun z => f (a', z) (c, d)) (h2 a' (c, d)) b b' k2 s1
  have s3 := up1 (f := fun z => f (a', b') (z, d)) (h3 (a', b') d) c c' k3 s2
  exact up1 (f := fun z => f (a', b') (c', z)) (h4 (a', b') c') d d' k4 s3
theorem risB_iff (n : Int) : risB n = true ↔ ∀ i ∈ lots, ∀ p ∈ pows, (i / p % 2 == 0) = true → bitI n i = true → bitI n (i + p) = true := by
  rw [risB_any, Bool.not_eq_true', List.any_eq_false]
  constructor
  · intro h i hi p hp hq hb
    have := h i hi
    rw [Bool.not_eq_true, List.any_eq_false] at this
    have := this p hp
    rw [hb, hq] at this
    simpa using this
  · intro h i hi
    rw [Bool.not_eq_true, List.any_eq_false]
    intro p hp
    cases hb : bitI n i with
    | false => simp
    | true =>
      cases hq : (i / p % 2 == 0) with
      | false => simp
      | true => simp [h i hi p hp hq hb]
theorem lot_in (x y : B2) : lotN x y ∈ lots := by
  obtain ⟨a, b⟩ := x
  obtain ⟨c, d⟩ := y
  cases a <;> cases b <;> cases c <;> cases d <;> decide
theorem ris_mon {n : Int} (h : risB n = true) : fmon fun x y => bitI n (lotN x y) := by
  have h := (risB_iff n).mp h
  refine fmon_of ?_ ?_ ?_ ?_
  · intro b y z
    have := h (lotN (false, b) y) (lot_in _ _) 1 (by decide) (by obtain ⟨c, d⟩ := y; cases b <;> cases c <;> cases d <;> rfl) z
    have e : lotN (false, b) y + 1 = lotN (true, b) y := by simp only [lotN, Bool.toNat_false, Bool.toNat_true] <;> omega
    rw [e] at this
    exact this
  · intro a y z
    have := h (lotN (a, false) y) (lot_in _ _) 2 (by decide) (by obtain ⟨c, d⟩ := y; cases a <;> cases c <;> cases d <;> rfl) z
    have e : lotN (a, false) y + 2 = lotN (a, true) y := by simp only [lotN, Bool.toNat_false, Bool.toNat_true] <;> omega
    rw [e] at this
    exact this
  · intro x b z
    have := h (lotN x (false, b)) (lot_in _ _) 4 (by decide) (by obtain ⟨c, d⟩ := x; cases b <;> cases c <;> cases d <;> rfl) z
    have e : lotN x (false, b) + 4 = lotN x (true, b) := by simp only [lotN, Bool.toNat_false, Bool.toNat_true] <;> omega
    rw [e] at this
    exact this
  · intro x a z
    have := h (lotN x (a, false)) (lot_in _ _) 8 (by decide) (by obtain ⟨c, d⟩ := x; cases a <;> cases c <;> cases d <;> rfl) z
    have e : lotN x (a, false) + 8 = lotN x (a, true) := by simp only [lotN, Bool.toNat_false, Bool.toNat_true] <;> omega
    rw [e] at this
    exact this
theorem lot_ex : ∀ i ∈ lots, ∃ x y : B2, i = lotN x y := by
  intro i hi
  have hj : i ∈ ins.map fun p => lotN p.1 p.2 := hi
  obtain ⟨p, _, rfl⟩ := List.mem_map.mp hj
  exact ⟨p.1, p.2, rfl⟩
theorem step_le (x y : B2) (p : Nat) (hp : p ∈ pows) (h : (lotN x y / p % 2 == 0) = true) : ∃ x' y' : B2, lotN x y + p = lotN x' y' ∧ Sg.le x x' ∧ Sg.le y y' := by
  have hp : p = 1 ∨ p = 2 ∨ p = 4 ∨ p = 8 := by simpa [pows] using hp
  obtain ⟨a, b⟩ := x
  obtain ⟨c, d⟩ := y
  rcases hp with rfl | rfl | rfl | rfl
  · have ha : a = false := by revert h; cases a <;> cases b <;> cases c <;> cases d <;> decide
    subst ha
    exact ⟨(true, b), (c, d), by simp only [lotN, Bool.toNat_false, Bool.toNat_true] <;> omega, ⟨fun _ => rfl, id⟩, Sg.le_refl _⟩
  · have ha : b = false := by revert h; cases a <;> cases b <;> cases c <;> cases d <;> decide
    subst ha
    exact ⟨(a, true), (c, d), by simp only [lotN, Bool.toNat_false, Bool.toNat_true] <;> omega, ⟨id, fun _ => rfl⟩, Sg.le_refl _⟩
  · have ha : c = false := by revert h; cases a <;> cases b <;> cases c <;> cases d <;> decide
    subst ha
    exact ⟨(a, b), (true, d), by simp only [lotN, Bool.toNat_false, Bool.toNat_true] <;> omega, Sg.le_refl _, ⟨fun _ => rfl, id⟩⟩
  · have ha : d = false := by revert h; cases a <;> cases b <;> cases c <;> cases d <;> decide
    subst ha
    exact ⟨(a, b), (c, true), by simp only [lotN, Bool.toNat_false, Bool.toNat_true] <;> omega, Sg.le_refl _, ⟨id, fun _ => rfl⟩⟩
theorem mon_ris {f : B2 → B2 → Bool} (h : fmon f) : risB (num f) = true := by
  refine (risB_iff _).mpr fun i hi p hp hq hb => ?_
  obtain ⟨x, y, rfl⟩ := lot_ex i hi
  obtain ⟨x', y', e, l1, l2⟩ := step_le x y p hp hq
  rw [bit_num] at hb
  rw [e, bit_num]
  exact h x x' y y' l1 l2 hb
/-- a number of sixteen bits is told by them -/
theorem num_of {n : Int} (h : 0 ≤ n ∧ n < 65536) : num (fun x y => bitI n (lotN x y)) = n := by
  obtain ⟨h0, h1⟩ := h
  have hb : ∀ k : Nat, (if bitI n k = true then (1 : Int) else 0) = n / 2 ^ k % 2 := fun k => by
    unfold bitI
    have : n / 2 ^ k % 2 = 0 ∨ n / 2 ^ k % 2 = 1 := by omega
    rcases this with z | z <;> rw [z] <;> rfl
  simp only [num, ins, List.map_cons, List.map_nil, ofBits, lotN, Bool.toNat_false, Bool.toNat_true, hb]
  omega
def SgOf (a b c d : Int) : Sg.S where
  L := fun x y => (bitI a (lotN x y), bitI b (lotN x y))
  R := fun x y => (bitI c (lotN x y), bitI d (lotN x y))
theorem isS_sg {s : Sg.S} (h : s.Mon) : isS (sgD s) = true := by
  obtain ⟨a1, a2⟩ := num_nat fun x y => (s.L x y).1
  obtain ⟨b1, b2⟩ := num_nat fun x y => (s.L x y).2
  obtain ⟨c1, c2⟩ := num_nat fun x y => (s.R x y).1
  obtain ⟨d1, d2⟩ := num_nat fun x y => (s.R x y).2
  have r1 := mon_ris (f := fun x y => (s.L x y).1) fun x x' y y' hx hy => (h.l hx hy).1
  have r2 := mon_ris (f := fun x y => (s.L x y).2) fun x x' y y' hx hy => (h.l hx hy).2
  have r3 := mon_ris (f := fun x y => (s.R x y).1) fun x x' y y' hx hy => (h.r hx hy).1
  have r4 := mon_ris (f := fun x y => (s.R x y).2) fun x x' y y' hx hy => (h.r hx hy).2
  simp [isS, sgD, numD, n0, n1, n2, n3, r1, r2, r3, r4, a1, b1, c1, d1]
  omega
theorem sg_of {a b c d : Int} (ha : numD (.int a) = true) (hb : numD (.int b) = true) (hc : numD (.int c) = true) (hd : numD (.int d) = true) : sgD (SgOf a b c d) = .tup [.int a, .int b, .int c, .int d] ∧ (SgOf a b c d).Mon := by
  simp only [numD, Bool.and_eq_true, decide_eq_true_eq] at ha hb hc hd
  refine ⟨?_, ⟨fun hx hy => ⟨fun z => ris_mon ha.2.2 _ _ _ _ hx hy z, fun z => ris_mon hb.2.2 _ _ _ _ hx hy z⟩, fun hx hy => ⟨fun z => ris_mon hc.2.2 _ _ _ _ hx hy z, fun z => ris_mon hd.2.2 _ _ _ _ hx hy z⟩⟩⟩
  have e1 := num_of (n := a) (by omega)
  have e2 := num_of (n := b) (by omega)
  have e3 := num_of (n := c) (by omega)
  have e4 := num_of (n := d) (by omega)
  unfold sgD n0 n1 n2 n3 SgOf
  rw [e1, e2, e3, e4]
theorem okS_sg (s : Sg.S) : okS (sgD s) := ⟨Nat.le_of_ble_eq_true rfl, fun d hd => by
  simp only [List.mem_cons, List.not_mem_nil, or_false] at hd
  rcases hd with rfl | rfl | rfl | rfl <;> trivial⟩
theorem isS_ex {v : D} (h : okS v) (hs : isS v = true) : ∃ s : Sg.S, v = sgD s ∧ s.Mon := by
  cases v with
  | tup ds =>
    simp only [isS, Bool.and_eq_true, beq_iff_eq, List.all_eq_true] at hs
    obtain ⟨h4, ha⟩ := hs
    match ds, h4, ha with
    | [p, q, r, u], _, ha =>
      have hp := ha p (by simp)
      have hq := ha q (by simp)
      have hr := ha r (by simp)
      have hu := ha u (by simp)
      cases p <;> first | cases hp | skip
      cases q <;> first | cases hq | skip
      cases r <;> first | cases hr | skip
      cases u <;> first | cases hu | skip
      obtain ⟨k1, k2⟩ := sg_of hp hq hr hu
      exact ⟨_, k1.symm, k2⟩
  | _ => cases hs
theorem need_sign_ok {v : D} (h : okS v) : F_need_sign [v] = if isS v = true then .ok .non else .ex { cls := "InvalidSign" } := by
  have := is_sign_of_ok h
  cases hb : isS v <;> simp [F_need_sign, m_need_sign, Mir.seqM, Mir.retM, Mir.retNM, Mir.drpM, Mir.asgM, Mir.ifM, Mir.toS, Mir.namG, Mir.tupG, Mir.allG, Mir.lsuG, Mir.varM, Mir.conM, Mir.op2M, Mir.op1M, Mir.tstM, Mir.andM, Mir.orM, Mir.notM, Mir.andT, Mir.orT, Mir.notT, Mir.iteM, Mir.chM, Mir.biM, Mir.isM, Mir.callM, Mir.callC, Mir.callN, Mir.argsM, Mir.O.bind, Mir.rd, Mir.rds, Mir.pures, Mir.tupM, Mir.lstM, Mir.nlsM, Mir.slM, Mir.noP, Mir.someP, Mir.slG, Mir.lcM, Mir.nlcM, Mir.wipeE, Mir.seqI, Mir.rng1I, Mir.rng2I, Mir.zpBI, Mir.seqU, Mir.strI, Mir.forM, Mir.setM, Mir.setC, Mir.parsM, Mir.setUs, Mir.meM, Mir.joinG, Mir.splG, Mir.lenG, Mir.intG, Mir.strG, Mir.listG, Mir.tupleG, Mir.isdic, Mir.isE, Mir.ixG, Mir.addG, Mir.subG, Mir.mulG, Mir.mulOk, Mir.fdivG, Mir.modG, Mir.powG, Mir.negG, Mir.ltG, Mir.leG, Mir.gtG, Mir.geG, Mir.isG, Mir.isNotG, Mir.isNon, Mir.env0, Mir.ins1, Mir.run0, Mir.run1, Mir.runN, Mir.frz, Mir.nxtM, Mir.unM, Mir.appM, Mir.isLst, Mir.kmIx, Mir.kmIn, Mir.scpM, Mir.lowU, this, hb, raiM]
theorem join_ok {s t : Sg.S} (hs : s.Mon) (ht : t.Mon) : F_join [sgD s, sgD t] = .ok (sgD (Sg.join s t)) := by
  have h1 := need_sign_ok (okS_sg s)
  have h2 := need_sign_ok (okS_sg t)
  rw [if_pos (isS_sg hs)] at h1
  rw [if_pos (isS_sg ht)] at h2
  simp [F_join, m_join, Mir.seqM, Mir.retM, Mir.retNM, Mir.drpM, Mir.asgM, Mir.ifM, Mir.toS, Mir.namG, Mir.tupG, Mir.allG, Mir.lsuG, Mir.varM, Mir.conM, Mir.op2M, Mir.op1M, Mir.tstM, Mir.andM, Mir.orM, Mir.notM, Mir.andT, Mir.orT, Mir.notT, Mir.iteM, Mir.chM, Mir.biM, Mir.isM, Mir.callM, Mir.callC, Mir.callN, Mir.argsM, Mir.O.bind, Mir.rd, Mir.rds, Mir.pures, Mir.tupM, Mir.lstM, Mir.nlsM, Mir.slM, Mir.noP, Mir.someP, Mir.slG, Mir.lcM, Mir.nlcM, Mir.wipeE, Mir.seqI, Mir.rng1I, Mir.rng2I, Mir.zpBI, Mir.seqU, Mir.strI, Mir.forM, Mir.setM, Mir.setC, Mir.parsM, Mir.setUs, Mir.meM, Mir.joinG, Mir.splG, Mir.lenG, Mir.intG, Mir.strG, Mir.listG, Mir.tupleG, Mir.isdic, Mir.isE, Mir.ixG, Mir.addG, Mir.subG, Mir.mulG, Mir.mulOk, Mir.fdivG, Mir.modG, Mir.powG, Mir.negG, Mir.ltG, Mir.leG, Mir.gtG, Mir.geG, Mir.isG, Mir.isNotG, Mir.isNon, Mir.env0, Mir.ins1, Mir.run0, Mir.run1, Mir.runN, Mir.frz, Mir.nxtM, Mir.unM, Mir.appM, Mir.isLst, Mir.kmIx, Mir.kmIn, Mir.scpM, Mir.lowU, h1, h2, joined_ok hs ht]
theorem refused_l {v : D} (s : Sg.S) (h : okS v) (hv : isS v = false) : F__law_refused [v, sgD s] = .ok (.bl true) := by
  have h1 := need_sign_ok h
  rw [if_neg (by rw [hv]; exact Bool.false_ne_true)] at h1
  have h2 : F_join [v, sgD s] = .ex { cls := "InvalidSign" } := by
    simp [F_join, m_join, Mir.seqM, Mir.retM, Mir.retNM, Mir.drpM, Mir.asgM, Mir.ifM, Mir.toS, Mir.namG, Mir.tupG, Mir.allG, Mir.lsuG, Mir.varM, Mir.conM, Mir.op2M, Mir.op1M, Mir.tstM, Mir.andM, Mir.orM, Mir.notM, Mir.andT, Mir.orT, Mir.notT, Mir.iteM, Mir.chM, Mir.biM, Mir.isM, Mir.callM, Mir.callC, Mir.callN, Mir.argsM, Mir.O.bind, Mir.rd, Mir.rds, Mir.pures, Mir.tupM, Mir.lstM, Mir.nlsM, Mir.slM, Mir.noP, Mir.someP, Mir.slG, Mir.lcM, Mir.nlcM, Mir.wipeE, Mir.seqI, Mir.rng1I, Mir.rng2I, Mir.zpBI, Mir.seqU, Mir.strI, Mir.forM, Mir.setM, Mir.setC, Mir.parsM, Mir.setUs, Mir.meM, Mir.joinG, Mir.splG, Mir.lenG, Mir.intG, Mir.strG, Mir.listG, Mir.tupleG, Mir.isdic, Mir.isE, Mir.ixG, Mir.addG, Mir.subG, Mir.mulG, Mir.mulOk, Mir.fdivG, Mir.modG, Mir.powG, Mir.negG, Mir.ltG, Mir.leG, Mir.gtG, Mir.geG, Mir.isG, Mir.isNotG, Mir.isNon, Mir.env0, Mir.ins1, Mir.run0, Mir.run1, Mir.runN, Mir.frz, Mir.nxtM, Mir.unM, Mir.appM, Mir.isLst, Mir.kmIx, Mir.kmIn, Mir.scpM, Mir.lowU, h1]
  simp [F__law_refused, m__law_refused, Mir.seqM, Mir.retM, Mir.retNM, Mir.drpM, Mir.asgM, Mir.ifM, Mir.toS, Mir.namG, Mir.tupG, Mir.allG, Mir.lsuG, Mir.varM, Mir.conM, Mir.op2M, Mir.op1M, Mir.tstM, Mir.andM, Mir.orM, Mir.notM, Mir.andT, Mir.orT, Mir.notT, Mir.iteM, Mir.chM, Mir.biM, Mir.isM, Mir.callM, Mir.callC, Mir.callN, Mir.argsM, Mir.O.bind, Mir.rd, Mir.rds, Mir.pures, Mir.tupM, Mir.lstM, Mir.nlsM, Mir.slM, Mir.noP, Mir.someP, Mir.slG, Mir.lcM, Mir.nlcM, Mir.wipeE, Mir.seqI, Mir.rng1I, Mir.rng2I, Mir.zpBI, Mir.seqU, Mir.strI, Mir.forM, Mir.setM, Mir.setC, Mir.parsM, Mir.setUs, Mir.meM, Mir.joinG, Mir.splG, Mir.lenG, Mir.intG, Mir.strG, Mir.listG, Mir.tupleG, Mir.isdic, Mir.isE, Mir.ixG, Mir.addG, Mir.subG, Mir.mulG, Mir.mulOk, Mir.fdivG, Mir.modG, Mir.powG, Mir.negG, Mir.ltG, Mir.leG, Mir.gtG, Mir.geG, Mir.isG, Mir.isNotG, Mir.isNon, Mir.env0, Mir.ins1, Mir.run0, Mir.run1, Mir.runN, Mir.frz, Mir.nxtM, Mir.unM, Mir.appM, Mir.isLst, Mir.kmIx, Mir.kmIn, Mir.scpM, Mir.lowU, h2, tryM, hndM, slk, sub_t, noX]
theorem refused_r {v : D} {s : Sg.S} (hs : s.Mon) (h : okS v) (hv : isS v = false) : F__law_refused [sgD s, v] = .ok (.bl true) := by
  have h1 := need_sign_ok h
  have h0 := need_sign_ok (okS_sg s)
  rw [if_pos (isS_sg hs)] at h0
  rw [if_neg (by rw [hv]; exact Bool.false_ne_true)] at h1
  have h2 : F_join [sgD s, v] = .ex { cls := "InvalidSign" } := by
    simp [F_join, m_join, Mir.seqM, Mir.retM, Mir.retNM, Mir.drpM, Mir.asgM, Mir.ifM, Mir.toS, Mir.namG, Mir.tupG, Mir.allG, Mir.lsuG, Mir.varM, Mir.conM, Mir.op2M, Mir.op1M, Mir.tstM, Mir.andM, Mir.orM, Mir.notM, Mir.andT, Mir.orT, Mir.notT, Mir.iteM, Mir.chM, Mir.biM, Mir.isM, Mir.callM, Mir.callC, Mir.callN, Mir.argsM, Mir.O.bind, Mir.rd, Mir.rds, Mir.pures, Mir.tupM, Mir.lstM, Mir.nlsM, Mir.slM, Mir.noP, Mir.someP, Mir.slG, Mir.lcM, Mir.nlcM, Mir.wipeE, Mir.seqI, Mir.rng1I, Mir.rng2I, Mir.zpBI, Mir.seqU, Mir.strI, Mir.forM, Mir.setM, Mir.setC, Mir.parsM, Mir.setUs, Mir.meM, Mir.joinG, Mir.splG, Mir.lenG, Mir.intG, Mir.strG, Mir.listG, Mir.tupleG, Mir.isdic, Mir.isE, Mir.ixG, Mir.addG, Mir.subG, Mir.mulG, Mir.mulOk, Mir.fdivG, Mir.modG, Mir.powG, Mir.negG, Mir.ltG, Mir.leG, Mir.gtG, Mir.geG, Mir.isG, Mir.isNotG, Mir.isNon, Mir.env0, Mir.ins1, Mir.run0, Mir.run1, Mir.runN, Mir.frz, Mir.nxtM, Mir.unM, Mir.appM, Mir.isLst, Mir.kmIx, Mir.kmIn, Mir.scpM, Mir.lowU, h0, h1]
  simp [F__law_refused, m__law_refused, Mir.seqM, Mir.retM, Mir.retNM, Mir.drpM, Mir.asgM, Mir.ifM, Mir.toS, Mir.namG, Mir.tupG, Mir.allG, Mir.lsuG, Mir.varM, Mir.conM, Mir.op2M, Mir.op1M, Mir.tstM, Mir.andM, Mir.orM, Mir.notM, Mir.andT, Mir.orT, Mir.notT, Mir.iteM, Mir.chM, Mir.biM, Mir.isM, Mir.callM, Mir.callC, Mir.callN, Mir.argsM, Mir.O.bind, Mir.rd, Mir.rds, Mir.pures, Mir.tupM, Mir.lstM, Mir.nlsM, Mir.slM, Mir.noP, Mir.someP, Mir.slG, Mir.lcM, Mir.nlcM, Mir.wipeE, Mir.seqI, Mir.rng1I, Mir.rng2I, Mir.zpBI, Mir.seqU, Mir.strI, Mir.forM, Mir.setM, Mir.setC, Mir.parsM, Mir.setUs, Mir.meM, Mir.joinG, Mir.splG, Mir.lenG, Mir.intG, Mir.strG, Mir.listG, Mir.tupleG, Mir.isdic, Mir.isE, Mir.ixG, Mir.addG, Mir.subG, Mir.mulG, Mir.mulOk, Mir.fdivG, Mir.modG, Mir.powG, Mir.negG, Mir.ltG, Mir.leG, Mir.gtG, Mir.geG, Mir.isG, Mir.isNotG, Mir.isNon, Mir.env0, Mir.ins1, Mir.run0, Mir.run1, Mir.runN, Mir.frz, Mir.nxtM, Mir.unM, Mir.appM, Mir.isLst, Mir.kmIx, Mir.kmIn, Mir.scpM, Mir.lowU, h2, tryM, hndM, slk, sub_t, noX]

/-! ### what is drawn -/
def Sk (c : Cell) : Prop := ∃ a b : Int, c = .lst [.int a, .int b]
theorem log_ok {n : Nat} (h : n ≤ 8000) : n.log2 < 9000 := Nat.lt_of_le_of_lt (Nat.log2_le_self n) (by omega)
theorem sack_ok (cell salt : Int) : ∃ c, F__law_sack [.int cell, .int salt] = .ok c ∧ Sk c := by
  have h1 : Nat.log2 10 < 9000 := log_ok (by decide)
  by_cases h : 1000000000000000000 ≤ cell
  · exact ⟨.lst [.int (cell / 10 + 41 * salt), .int ((cell * 73 + 1039 * salt) % 2017504241 + 43)], by simp [F__law_sack, m__law_sack, Mir.seqM, Mir.retM, Mir.retNM, Mir.drpM, Mir.asgM, Mir.ifM, Mir.toS, Mir.namG, Mir.tupG, Mir.allG, Mir.lsuG, Mir.varM, Mir.conM, Mir.op2M, Mir.op1M, Mir.tstM, Mir.andM, Mir.orM, Mir.notM, Mir.andT, Mir.orT, Mir.notT, Mir.iteM, Mir.chM, Mir.biM, Mir.isM, Mir.callM, Mir.callC, Mir.callN, Mir.argsM, Mir.O.bind, Mir.rd, Mir.rds, Mir.pures, Mir.tupM, Mir.lstM, Mir.nlsM, Mir.slM, Mir.noP, Mir.someP, Mir.slG, Mir.lcM, Mir.nlcM, Mir.wipeE, Mir.seqI, Mir.rng1I, Mir.rng2I, Mir.zpBI, Mir.seqU, Mir.strI, Mir.forM, Mir.setM, Mir.setC, Mir.parsM, Mir.setUs, Mir.meM, Mir.joinG, Mir.splG, Mir.lenG, Mir.intG, Mir.strG, Mir.listG, Mir.tupleG, Mir.isdic, Mir.isE, Mir.ixG, Mir.addG, Mir.subG, Mir.mulG, Mir.mulOk, Mir.fdivG, Mir.modG, Mir.powG, Mir.negG, Mir.ltG, Mir.leG, Mir.gtG, Mir.geG, Mir.isG, Mir.isNotG, Mir.isNon, Mir.env0, Mir.ins1, Mir.run0, Mir.run1, Mir.runN, Mir.frz, Mir.nxtM, Mir.unM, Mir.appM, Mir.isLst, Mir.kmIx, Mir.kmIn, Mir.scpM, Mir.lowU, h, h1], _, _, rfl⟩
  · exact ⟨.lst [.int 0, .int ((cell * 73 + 1039 * salt) % 2017504241 + 43)], by simp [F__law_sack, m__law_sack, Mir.seqM, Mir.retM, Mir.retNM, Mir.drpM, Mir.asgM, Mir.ifM, Mir.toS, Mir.namG, Mir.tupG, Mir.allG, Mir.lsuG, Mir.varM, Mir.conM, Mir.op2M, Mir.op1M, Mir.tstM, Mir.andM, Mir.orM, Mir.notM, Mir.andT, Mir.orT, Mir.notT, Mir.iteM, Mir.chM, Mir.biM, Mir.isM, Mir.callM, Mir.callC, Mir.callN, Mir.argsM, Mir.O.bind, Mir.rd, Mir.rds, Mir.pures, Mir.tupM, Mir.lstM, Mir.nlsM, Mir.slM, Mir.noP, Mir.someP, Mir.slG, Mir.lcM, Mir.nlcM, Mir.wipeE, Mir.seqI, Mir.rng1I, Mir.rng2I, Mir.zpBI, Mir.seqU, Mir.strI, Mir.forM, Mir.setM, Mir.setC, Mir.parsM, Mir.setUs, Mir.meM, Mir.joinG, Mir.splG, Mir.lenG, Mir.intG, Mir.strG, Mir.listG, Mir.tupleG, Mir.isdic, Mir.isE, Mir.ixG, Mir.addG, Mir.subG, Mir.mulG, Mir.mulOk, Mir.fdivG, Mir.modG, Mir.powG, Mir.negG, Mir.ltG, Mir.leG, Mir.gtG, Mir.geG, Mir.isG, Mir.isNotG, Mir.isNon, Mir.env0, Mir.ins1, Mir.run0, Mir.run1, Mir.runN, Mir.frz, Mir.nxtM, Mir.unM, Mir.appM, Mir.isLst, Mir.kmIx, Mir.kmIn, Mir.scpM, Mir.lowU, h, h1], _, _, rfl⟩
theorem grip_ok {c : Cell} (hc : Sk c) {many : Int} (hm : 0 < many) (hl : many ≤ 8000 ∨ many.natAbs.log2 < 9000) : ∃ r c', F__law_grip [.int many] c = .ok (.int r) c' ∧ Sk c' ∧ 0 ≤ r ∧ r < many := by
  obtain ⟨a, b, rfl⟩ := hc
  have hl : many.natAbs.log2 < 9000 := by
    rcases hl with h | h
    · exact log_ok (by omega)
    · exact h
  by_cases h : 0 < a
  · refine ⟨a % many, .lst [.int (a / many), .int b], ?_, ⟨_, _, rfl⟩, Int.emod_nonneg _ (by omega), Int.emod_lt_of_pos _ hm⟩
    simp [F__law_grip, m__law_grip, Mir.seqM, Mir.retM, Mir.retNM, Mir.drpM, Mir.asgM, Mir.ifM, Mir.toS, Mir.namG, Mir.tupG, Mir.allG, Mir.lsuG, Mir.varM, Mir.conM, Mir.op2M, Mir.op1M, Mir.tstM, Mir.andM, Mir.orM, Mir.notM, Mir.andT, Mir.orT, Mir.notT, Mir.iteM, Mir.chM, Mir.biM, Mir.isM, Mir.callM, Mir.callC, Mir.callN, Mir.argsM, Mir.O.bind, Mir.rd, Mir.rds, Mir.pures, Mir.tupM, Mir.lstM, Mir.nlsM, Mir.slM, Mir.noP, Mir.someP, Mir.slG, Mir.lcM, Mir.nlcM, Mir.wipeE, Mir.seqI, Mir.rng1I, Mir.rng2I, Mir.zpBI, Mir.seqU, Mir.strI, Mir.forM, Mir.setM, Mir.setC, Mir.parsM, Mir.setUs, Mir.meM, Mir.joinG, Mir.splG, Mir.lenG, Mir.intG, Mir.strG, Mir.listG, Mir.tupleG, Mir.isdic, Mir.isE, Mir.ixG, Mir.addG, Mir.subG, Mir.mulG, Mir.mulOk, Mir.fdivG, Mir.modG, Mir.powG, Mir.negG, Mir.ltG, Mir.leG, Mir.gtG, Mir.geG, Mir.isG, Mir.isNotG, Mir.isNon, Mir.env0, Mir.ins1, Mir.run0, Mir.run1, Mir.runN, Mir.frz, Mir.nxtM, Mir.unM, Mir.appM, Mir.isLst, Mir.kmIx, Mir.kmIn, Mir.scpM, Mir.lowU, L2.atI, L2.ixN, h, hm, hl]
  · have hb : 0 ≤ (b * 35023 + 9001) % 2147483549 ∧ (b * 35023 + 9001) % 2147483549 < 2147483549 := ⟨Int.emod_nonneg _ (by omega), Int.emod_lt_of_pos _ (by omega)⟩
    generalize hc : (b * 35023 + 9001) % 2147483549 = c at hb
    refine ⟨(c * (c + 79) % 2147483587) / 593 % many, .lst [.int a, .int c], ?_, ⟨_, _, rfl⟩, Int.emod_nonneg _ (by omega), Int.emod_lt_of_pos _ hm⟩
    have h1 : (-18446744073709551616 : Int) < c := by omega
    have h2 : c < 18446744073709551616 := by omega
    have h3 : Nat.log2 593 < 9000 := by decide
    simp [F__law_grip, m__law_grip, Mir.seqM, Mir.retM, Mir.retNM, Mir.drpM, Mir.asgM, Mir.ifM, Mir.toS, Mir.namG, Mir.tupG, Mir.allG, Mir.lsuG, Mir.varM, Mir.conM, Mir.op2M, Mir.op1M, Mir.tstM, Mir.andM, Mir.orM, Mir.notM, Mir.andT, Mir.orT, Mir.notT, Mir.iteM, Mir.chM, Mir.biM, Mir.isM, Mir.callM, Mir.callC, Mir.callN, Mir.argsM, Mir.O.bind, Mir.rd, Mir.rds, Mir.pures, Mir.tupM, Mir.lstM, Mir.nlsM, Mir.slM, Mir.noP, Mir.someP, Mir.slG, Mir.lcM, Mir.nlcM, Mir.wipeE, Mir.seqI, Mir.rng1I, Mir.rng2I, Mir.zpBI, Mir.seqU, Mir.strI, Mir.forM, Mir.setM, Mir.setC, Mir.parsM, Mir.setUs, Mir.meM, Mir.joinG, Mir.splG, Mir.lenG, Mir.intG, Mir.strG, Mir.listG, Mir.tupleG, Mir.isdic, Mir.isE, Mir.ixG, Mir.addG, Mir.subG, Mir.mulG, Mir.mulOk, Mir.fdivG, Mir.modG, Mir.powG, Mir.negG, Mir.ltG, Mir.leG, Mir.gtG, Mir.geG, Mir.isG, Mir.isNotG, Mir.isNon, Mir.env0, Mir.ins1, Mir.run0, Mir.run1, Mir.runN, Mir.frz, Mir.nxtM, Mir.unM, Mir.appM, Mir.isLst, Mir.kmIx, Mir.kmIn, Mir.scpM, Mir.lowU, L2.atI, L2.ixN, h, hm, hl, hc, h1, h2, h3]
theorem atI_ok {α : Type} {xs : List α} {r : Int} (h0 : 0 ≤ r) (h1 : r < xs.length) : ∃ d, L2.atI xs r = some d ∧ d ∈ xs := by
  have hr : r = ((r.toNat : Nat) : Int) := by omega
  have hl : r.toNat < xs.length := by omega
  rw [hr]
  exact ⟨xs[r.toNat], atI_nat (List.getElem?_eq_getElem hl), List.getElem_mem hl⟩

/-! ### numbers that rise, drawn -/
def subN (i g : Nat) : Bool := i + g - (i &&& g) == g
theorem both_a : ([0, 1, 2, 3] : List Nat).all (fun i => lots.all fun g => isOk (F__law_both [nI i, nI g]) (nI (i &&& g))) = true := by decide +kernel
theorem both_b : ([4, 5, 6, 7] : List Nat).all (fun i => lots.all fun g => isOk (F__law_both [nI i, nI g]) (nI (i &&& g))) = true := by decide +kernel
theorem both_c : ([8, 9, 10, 11] : List Nat).all (fun i => lots.all fun g => isOk (F__law_both [nI i, nI g]) (nI (i &&& g))) = true := by decide +kernel
theorem both_d : ([12, 13, 14, 15] : List Nat).all (fun i => lots.all fun g => isOk (F__law_both [nI i, nI g]) (nI (i &&& g))) = true := by decide +kernel
theorem both_ok {i g : Nat} (hi : i ∈ lots) (hg : g ∈ lots) : F__law_both [nI i, nI g] = .ok (nI (i &&& g)) := by
  have e : lots = [0, 1, 2, 3] ++ ([4, 5, 6, 7] ++ ([8, 9, 10, 11] ++ [12, 13, 14, 15])) := rfl
  have hi' := hi
  rw [e, List.mem_append, List.mem_append, List.mem_append] at hi'
  rcases hi' with h | h | h | h
  · exact isOk_eq (List.all_eq_true.mp (List.all_eq_true.mp both_a i h) g hg)
  · exact isOk_eq (List.all_eq_true.mp (List.all_eq_true.mp both_b i h) g hg)
  · exact isOk_eq (List.all_eq_true.mp (List.all_eq_true.mp both_c i h) g hg)
  · exact isOk_eq (List.all_eq_true.mp (List.all_eq_true.mp both_d i h) g hg)
theorem sub_int : ∀ i ∈ lots, ∀ g ∈ lots, ((i : Int) + (g : Int) - ((i &&& g : Nat) : Int) == (g : Int)) = subN i g := by decide
theorem mon_sub (i : Nat) (hi : i ∈ lots) : fmon fun x y => subN i (lotN x y) := by
  have k1 : ∀ i ∈ lots, ∀ b ∈ [false, true], ∀ c ∈ [false, true], ∀ d ∈ [false, true], subN i (lotN (false, b) (c, d)) = true → subN i (lotN (true, b) (c, d)) = true := by decide +kernel
  have k2 : ∀ i ∈ lots, ∀ b ∈ [false, true], ∀ c ∈ [false, true], ∀ d ∈ [false, true], subN i (lotN (b, false) (c, d)) = true → subN i (lotN (b, true) (c, d)) = true := by decide +kernel
  have k3 : ∀ i ∈ lots, ∀ b ∈ [false, true], ∀ c ∈ [false, true], ∀ d ∈ [false, true], subN i (lotN (b, c) (false, d)) = true → subN i (lotN (b, c) (true, d)) = true := by decide +kernel
  have k4 : ∀ i ∈ lots, ∀ b ∈ [false, true], ∀ c ∈ [false, true], ∀ d ∈ [false, true], subN i (lotN (b, c) (d, false)) = true → subN i (lotN (b, c) (d, true)) = true := by decide +kernel
  have m : ∀ b : Bool, b ∈ [false, true] := fun b => by cases b <;> decide
  exact fmon_of (fun b y => k1 i hi b (m b) y.1 (m _) y.2 (m _)) (fun a y => k2 i hi a (m _) y.1 (m _) y.2 (m _)) (fun x b => k3 i hi x.1 (m _) x.2 (m _) b (m _)) (fun x a => k4 i hi x.1 (m _) x.2 (m _) a (m _))
def upN (is : List Nat) (g : Nat) : Bool := is.any fun i => subN i g
theorem mon_up {is : List Nat} (h : ∀ i ∈ is, i ∈ lots) : fmon fun x y => upN is (lotN x y) := fun x x' y y' hx hy z => by
  obtain ⟨i, hi, hz⟩ := List.any_eq_true.mp z
  exact List.any_eq_true.mpr ⟨i, hi, mon_sub i (h i hi) x x' y y' hx hy hz⟩
def ribB : MS := (ifM (tstM (op2M neG (lcM (seqI (varM 1)) (.one 5) (tstM (op2M eqG (op2M subG (op2M addG (varM 5) (varM 3)) (callM F__law_both [(varM 5), (varM 3)])) (varM 3))) (varM 5) [5]) (lstM []))) (asgM (op2M addG (varM 2) (callM F__law_worth [(varM 3)])) (namG 2)) nxtM)
theorem nI_cl (is : List Nat) : cl 1 (.lst (is.map nI)) = true := by
  have : is.map nI = (is.map Int.ofNat).map D.int := by rw [List.map_map]; rfl
  rw [this]
  exact cls_ints (n := 0) _
theorem ribB_ok (is : List Nat) (h : ∀ i ∈ is, i ∈ lots) (hl : is.length ≤ 100) (a : Int) (g : Nat) (hg : g ∈ lots) (x4 x5 : Option U) (c : Cell) :
    ribB [some (.c 0), some (.d (.lst (is.map nI))), some (.d (.int a)), some (.d (nI g)), x4, x5] [c] = .nx [some (.c 0), some (.d (.lst (is.map nI))), some (.d (.int (a + wt (upN is g) g))), some (.d (nI g)), x4, x5] [c] := by
  have h1 := lcL_filter (tg := .one 5) (t := (tstM (op2M eqG (op2M subG (op2M addG (varM 5) (varM 3)) (callM F__law_both [(varM 5), (varM 3)])) (varM 3)))) (f := varM 5) (ρ0 := [some (.c 0), some (.d (.lst (is.map nI))), some (.d (.int a)), some (.d (nI g)), x4, none]) (S := [c])
    (fun d => match d with | .int i => subN i.toNat g | _ => false) id (is.map nI) fun d hd => by
    obtain ⟨i, hi, rfl⟩ := List.mem_map.mp hd
    have hb := both_ok (h i hi) hg
    have hs := sub_int i (h i hi) g hg
    simp only [nI] at hb
    refine ⟨_, rfl, ?_, fun _ => ?_⟩
    · simp [Mir.seqM, Mir.retM, Mir.retNM, Mir.drpM, Mir.asgM, Mir.ifM, Mir.toS, Mir.namG, Mir.tupG, Mir.allG, Mir.lsuG, Mir.varM, Mir.conM, Mir.op2M, Mir.op1M, Mir.tstM, Mir.andM, Mir.orM, Mir.notM, Mir.andT, Mir.orT, Mir.notT, Mir.iteM, Mir.chM, Mir.biM, Mir.isM, Mir.callM, Mir.callC, Mir.callN, Mir.argsM, Mir.O.bind, Mir.rd, Mir.rds, Mir.pures, Mir.tupM, Mir.lstM, Mir.nlsM, Mir.slM, Mir.noP, Mir.someP, Mir.slG, Mir.lcM, Mir.nlcM, Mir.wipeE, Mir.seqI, Mir.rng1I, Mir.rng2I, Mir.zpBI, Mir.seqU, Mir.strI, Mir.forM, Mir.setM, Mir.setC, Mir.parsM, Mir.setUs, Mir.meM, Mir.joinG, Mir.splG, Mir.lenG, Mir.intG, Mir.strG, Mir.listG, Mir.tupleG, Mir.isdic, Mir.isE, Mir.ixG, Mir.addG, Mir.subG, Mir.mulG, Mir.mulOk, Mir.fdivG, Mir.modG, Mir.powG, Mir.negG, Mir.ltG, Mir.leG, Mir.gtG, Mir.geG, Mir.isG, Mir.isNotG, Mir.isNon, Mir.env0, Mir.ins1, Mir.run0, Mir.run1, Mir.runN, Mir.frz, Mir.nxtM, Mir.unM, Mir.appM, Mir.isLst, Mir.kmIx, Mir.kmIn, Mir.scpM, Mir.lowU, nI, hb, eqG_int, hs]
    · simp [Mir.seqM, Mir.retM, Mir.retNM, Mir.drpM, Mir.asgM, Mir.ifM, Mir.toS, Mir.namG, Mir.tupG, Mir.allG, Mir.lsuG, Mir.varM, Mir.conM, Mir.op2M, Mir.op1M, Mir.tstM, Mir.andM, Mir.orM, Mir.notM, Mir.andT, Mir.orT, Mir.notT, Mir.iteM, Mir.chM, Mir.biM, Mir.isM, Mir.callM, Mir.callC, Mir.callN, Mir.argsM, Mir.O.bind, Mir.rd, Mir.rds, Mir.pures, Mir.tupM, Mir.lstM, Mir.nlsM, Mir.slM, Mir.noP, Mir.someP, Mir.slG, Mir.lcM, Mir.nlcM, Mir.wipeE, Mir.seqI, Mir.rng1I, Mir.rng2I, Mir.zpBI, Mir.seqU, Mir.strI, Mir.forM, Mir.setM, Mir.setC, Mir.parsM, Mir.setUs, Mir.meM, Mir.joinG, Mir.splG, Mir.lenG, Mir.intG, Mir.strG, Mir.listG, Mir.tupleG, Mir.isdic, Mir.isE, Mir.ixG, Mir.addG, Mir.subG, Mir.mulG, Mir.mulOk, Mir.fdivG, Mir.modG, Mir.powG, Mir.negG, Mir.ltG, Mir.leG, Mir.gtG, Mir.geG, Mir.isG, Mir.isNotG, Mir.isNon, Mir.env0, Mir.ins1, Mir.run0, Mir.run1, Mir.runN, Mir.frz, Mir.nxtM, Mir.unM, Mir.appM, Mir.isLst, Mir.kmIx, Mir.kmIn, Mir.scpM, Mir.lowU, nI]
  have e1 : ((is.map nI).filter (fun d => match d with | .int i => subN i.toNat g | _ => false)).map id = (is.filter fun i => subN i g).map nI := by
    rw [List.map_id, List.filter_map]
    rfl
  rw [e1] at h1
  have hn : neG (.lst ((is.filter fun i => subN i g).map nI)) (.lst []) = some (.bl (upN is g)) := by
    cases hf : is.filter fun i => subN i g with
    | nil =>
      have : upN is g = false := by
        unfold upN
        rw [List.any_eq_false]
        intro i hi hz
        have : i ∈ is.filter fun i => subN i g := List.mem_filter.mpr ⟨hi, hz⟩
        rw [hf] at this
        cases this
      rw [this]; rfl
    | cons i r =>
      have : upN is g = true := by
        have hm : i ∈ is.filter fun i => subN i g := by rw [hf]; exact List.mem_cons_self
        obtain ⟨q1, q2⟩ := List.mem_filter.mp hm
        exact List.any_eq_true.mpr ⟨i, q1, q2⟩
      rw [this, neG_cl (n := 1) (m := 1) (nI_cl _) rfl]
      rfl
  have hw : F__law_worth [nI g] = .ok (.int (2 ^ g)) := worth_ok g (lots_lt hg)
  have hlb : is.length ≤ big := Nat.le_trans hl (by decide)
  cases hu : upN is g with
  | true => 
    rw [hu] at hn
    simp [ribB, Mir.seqM, Mir.retM, Mir.retNM, Mir.drpM, Mir.asgM, Mir.ifM, Mir.toS, Mir.namG, Mir.tupG, Mir.allG, Mir.lsuG, Mir.varM, Mir.conM, Mir.op2M, Mir.op1M, Mir.tstM, Mir.andM, Mir.orM, Mir.notM, Mir.andT, Mir.orT, Mir.notT, Mir.iteM, Mir.chM, Mir.biM, Mir.isM, Mir.callM, Mir.callC, Mir.callN, Mir.argsM, Mir.O.bind, Mir.rd, Mir.rds, Mir.pures, Mir.tupM, Mir.lstM, Mir.nlsM, Mir.slM, Mir.noP, Mir.someP, Mir.slG, Mir.lcM, Mir.nlcM, Mir.wipeE, Mir.seqI, Mir.rng1I, Mir.rng2I, Mir.zpBI, Mir.seqU, Mir.strI, Mir.forM, Mir.setM, Mir.setC, Mir.parsM, Mir.setUs, Mir.meM, Mir.joinG, Mir.splG, Mir.lenG, Mir.intG, Mir.strG, Mir.listG, Mir.tupleG, Mir.isdic, Mir.isE, Mir.ixG, Mir.addG, Mir.subG, Mir.mulG, Mir.mulOk, Mir.fdivG, Mir.modG, Mir.powG, Mir.negG, Mir.ltG, Mir.leG, Mir.gtG, Mir.geG, Mir.isG, Mir.isNotG, Mir.isNon, Mir.env0, Mir.ins1, Mir.run0, Mir.run1, Mir.runN, Mir.frz, Mir.nxtM, Mir.unM, Mir.appM, Mir.isLst, Mir.kmIx, Mir.kmIn, Mir.scpM, Mir.lowU, h1, hn, hlb, hw, wt]
  | false => 
    rw [hu] at hn
    simp [ribB, Mir.seqM, Mir.retM, Mir.retNM, Mir.drpM, Mir.asgM, Mir.ifM, Mir.toS, Mir.namG, Mir.tupG, Mir.allG, Mir.lsuG, Mir.varM, Mir.conM, Mir.op2M, Mir.op1M, Mir.tstM, Mir.andM, Mir.orM, Mir.notM, Mir.andT, Mir.orT, Mir.notT, Mir.iteM, Mir.chM, Mir.biM, Mir.isM, Mir.callM, Mir.callC, Mir.callN, Mir.argsM, Mir.O.bind, Mir.rd, Mir.rds, Mir.pures, Mir.tupM, Mir.lstM, Mir.nlsM, Mir.slM, Mir.noP, Mir.someP, Mir.slG, Mir.lcM, Mir.nlcM, Mir.wipeE, Mir.seqI, Mir.rng1I, Mir.rng2I, Mir.zpBI, Mir.seqU, Mir.strI, Mir.forM, Mir.setM, Mir.setC, Mir.parsM, Mir.setUs, Mir.meM, Mir.joinG, Mir.splG, Mir.lenG, Mir.intG, Mir.strG, Mir.listG, Mir.tupleG, Mir.isdic, Mir.isE, Mir.ixG, Mir.addG, Mir.subG, Mir.mulG, Mir.mulOk, Mir.fdivG, Mir.modG, Mir.powG, Mir.negG, Mir.ltG, Mir.leG, Mir.gtG, Mir.geG, Mir.isG, Mir.isNotG, Mir.isNon, Mir.env0, Mir.ins1, Mir.run0, Mir.run1, Mir.runN, Mir.frz, Mir.nxtM, Mir.unM, Mir.appM, Mir.isLst, Mir.kmIx, Mir.kmIn, Mir.scpM, Mir.lowU, h1, hn, hlb, wt]
theorem ribs_ok (is : List Nat) (h : ∀ i ∈ is, i ∈ lots) (hl : is.length ≤ 100) (x4 x5 : Option U) (c : Cell) : ∀ (gs : List Nat), (∀ g ∈ gs, g ∈ lots) → ∀ (a : Int) (x3 : Option U),
    ∃ y3, forL (namG 3) ribB (gs.map nI) [some (.c 0), some (.d (.lst (is.map nI))), some (.d (.int a)), x3, x4, x5] [c] = .nx [some (.c 0), some (.d (.lst (is.map nI))), some (.d (.int (gs.foldl (fun a g => a + wt (upN is g) g) a))), y3, x4, x5] [c]
  | [], _, a, x3 => ⟨x3, rfl⟩
  | g :: gs, hg, a, x3 => by
    obtain ⟨y3, h2⟩ := ribs_ok is h hl x4 x5 c gs (fun z hz => hg z (List.mem_cons_of_mem _ hz)) (a + wt (upN is g) g) (some (.d (nI g)))
    have h1 := ribB_ok is h hl a g (hg g List.mem_cons_self) x4 x5 c
    have e : namG 3 (.d (nI g)) [some (.c 0), some (.d (.lst (is.map nI))), some (.d (.int a)), x3, x4, x5] [c] = some ([some (.c 0), some (.d (.lst (is.map nI))), some (.d (.int a)), some (.d (nI g)), x4, x5], [c]) := rfl
    refine ⟨y3, ?_⟩
    simp only [List.map_cons, forL, e, h1]
    exact h2
theorem nats_of : ∀ {ys : List D}, (∀ y ∈ ys, ∃ i ∈ lots, y = nI i) → ∃ is : List Nat, ys = is.map nI ∧ ∀ i ∈ is, i ∈ lots
  | [], _ => ⟨[], rfl, fun _ h => by cases h⟩
  | y :: ys, h => by
    obtain ⟨i, hi, rfl⟩ := h y List.mem_cons_self
    obtain ⟨is, rfl, h2⟩ := nats_of fun z hz => h z (List.mem_cons_of_mem _ hz)
    exact ⟨i :: is, rfl, fun j hj => by
      rcases List.mem_cons.mp hj with rfl | hj
      · exact hi
      · exact h2 j hj⟩
theorem m_rising_eq : m__law_rising = (seqM (asgM (lcM (rng1I (callC 0 F__law_grip [(varM 0), (conM (.int 4))])) (.one 4) yesM (callC 0 F__law_grip [(varM 0), (conM (.int 16))]) [4]) (namG 1))
    (seqM (asgM (conM (.int 0)) (namG 2))
    (seqM (Mir.forM (rng1I (conM (.int 16))) (namG 3) ribB)
    (retM (varM 2))))) := rfl
theorem rising_ok {c : Cell} (hc : Sk c) : ∃ n c', F__law_rising [] c = .ok (.int n) c' ∧ Sk c' ∧ numD (.int n) = true := by
  obtain ⟨k, c1, g1, g2, g3, g4⟩ := grip_ok hc (many := 4) (by decide) (.inl (by decide))
  obtain ⟨ys, S', l1, ⟨c2, rfl, s2⟩, l3, l4⟩ := lcL_inv (tg := .one 4) (t := yesM) (f := callC 0 F__law_grip [(varM 0), (conM (.int 16))]) (ρ0 := [some (.c 0), none, none, none, none, none]) (fun S => ∃ c, S = [c] ∧ Sk c) (fun y => ∃ i ∈ lots, y = nI i) ((List.range k.toNat).map nI) [c1] (fun d hd S ⟨c, hS, hc⟩ => by
    subst hS
    obtain ⟨j, _, rfl⟩ := List.mem_map.mp hd
    obtain ⟨r, c2, r1, r2, r3, r4⟩ := grip_ok hc (many := 16) (by decide) (.inl (by decide))
    refine ⟨_, [c], .int r, [c2], rfl, rfl, ?_, ⟨c2, rfl, r2⟩, r.toNat, ?_, ?_⟩
    · simp [Mir.seqM, Mir.retM, Mir.retNM, Mir.drpM, Mir.asgM, Mir.ifM, Mir.toS, Mir.namG, Mir.tupG, Mir.allG, Mir.lsuG, Mir.varM, Mir.conM, Mir.op2M, Mir.op1M, Mir.tstM, Mir.andM, Mir.orM, Mir.notM, Mir.andT, Mir.orT, Mir.notT, Mir.iteM, Mir.chM, Mir.biM, Mir.isM, Mir.callM, Mir.callC, Mir.callN, Mir.argsM, Mir.O.bind, Mir.rd, Mir.rds, Mir.pures, Mir.tupM, Mir.lstM, Mir.nlsM, Mir.slM, Mir.noP, Mir.someP, Mir.slG, Mir.lcM, Mir.nlcM, Mir.wipeE, Mir.seqI, Mir.rng1I, Mir.rng2I, Mir.zpBI, Mir.seqU, Mir.strI, Mir.forM, Mir.setM, Mir.setC, Mir.parsM, Mir.setUs, Mir.meM, Mir.joinG, Mir.splG, Mir.lenG, Mir.intG, Mir.strG, Mir.listG, Mir.tupleG, Mir.isdic, Mir.isE, Mir.ixG, Mir.addG, Mir.subG, Mir.mulG, Mir.mulOk, Mir.fdivG, Mir.modG, Mir.powG, Mir.negG, Mir.ltG, Mir.leG, Mir.gtG, Mir.geG, Mir.isG, Mir.isNotG, Mir.isNon, Mir.env0, Mir.ins1, Mir.run0, Mir.run1, Mir.runN, Mir.frz, Mir.nxtM, Mir.unM, Mir.appM, Mir.isLst, Mir.kmIx, Mir.kmIn, Mir.scpM, Mir.lowU, r1]
    · have : r.toNat < 16 := by omega
      revert this
      generalize r.toNat = z
      intro this
      have : ∀ z, z < 16 → z ∈ lots := by decide
      exact this z ‹_›
    · unfold nI
      rw [Int.toNat_of_nonneg r3]) ⟨c1, rfl, g2⟩
  obtain ⟨is, rfl, hi⟩ := nats_of l4
  have hl : is.length ≤ 100 := by
    rw [List.length_map, List.length_map, List.length_range] at l3
    omega
  obtain ⟨y3, h2⟩ := ribs_ok is hi hl none none c2 lots (fun _ h => h) 0 none
  have e3 : lots.foldl (fun a g => a + wt (upN is g) g) 0 = num fun x y => upN is (lotN x y) := by
    rw [← sum_num]
    rfl
  rw [e3, ← lots_n] at h2
  obtain ⟨n1, n2⟩ := num_nat fun x y => upN is (lotN x y)
  have hr := mon_ris (mon_up hi)
  refine ⟨num fun x y => upN is (lotN x y), c2, ?_, s2, ?_⟩
  · have hk : k.toNat ≤ big := Nat.le_trans (m := 4) (by omega) (by decide)
    have e4 : (List.range k.toNat).map nI = (List.range k.toNat).map fun i => D.int (i : Nat) := rfl
    rw [e4] at l1
    have hk2 : k ≤ 1000000 := by omega
    have hk3 : -1000000 ≤ k := by omega
    have r16 : List.range 16 = [0, 1, 2, 3, 4, 5, 6, 7, 8, 9, 10, 11, 12, 13, 14, 15] := rfl
    simp [F__law_rising, m_rising_eq, Mir.seqM, Mir.retM, Mir.retNM, Mir.drpM, Mir.asgM, Mir.ifM, Mir.toS, Mir.namG, Mir.tupG, Mir.allG, Mir.lsuG, Mir.varM, Mir.conM, Mir.op2M, Mir.op1M, Mir.tstM, Mir.andM, Mir.orM, Mir.notM, Mir.andT, Mir.orT, Mir.notT, Mir.iteM, Mir.chM, Mir.biM, Mir.isM, Mir.callM, Mir.callC, Mir.callN, Mir.argsM, Mir.O.bind, Mir.rd, Mir.rds, Mir.pures, Mir.tupM, Mir.lstM, Mir.nlsM, Mir.slM, Mir.noP, Mir.someP, Mir.slG, Mir.lcM, Mir.nlcM, Mir.wipeE, Mir.seqI, Mir.rng1I, Mir.rng2I, Mir.zpBI, Mir.seqU, Mir.strI, Mir.forM, Mir.setM, Mir.setC, Mir.parsM, Mir.setUs, Mir.meM, Mir.joinG, Mir.splG, Mir.lenG, Mir.intG, Mir.strG, Mir.listG, Mir.tupleG, Mir.isdic, Mir.isE, Mir.ixG, Mir.addG, Mir.subG, Mir.mulG, Mir.mulOk, Mir.fdivG, Mir.modG, Mir.powG, Mir.negG, Mir.ltG, Mir.leG, Mir.gtG, Mir.geG, Mir.isG, Mir.isNotG, Mir.isNon, Mir.env0, Mir.ins1, Mir.run0, Mir.run1, Mir.runN, Mir.frz, Mir.nxtM, Mir.unM, Mir.appM, Mir.isLst, Mir.kmIx, Mir.kmIn, Mir.scpM, Mir.lowU, g1, l1, big, hk, hk2, hk3, hl, r16, h2]
  · simp [numD, n1, hr]
    omega

/-! ### the law -/
def dd (x : Option D) : Option U := x.map .d
theorem low_dd {n : Nat} {x : Option D} : lowU n (dd x) = true := by cases x <;> rfl
def B3 : MS := (drpM (appM (varM 5) (tupM [(callC 0 F__law_rising [(varM 4)]), (callC 0 F__law_rising [(varM 4)]), (callC 0 F__law_rising [(varM 4)]), (callC 0 F__law_rising [(varM 4)])])))
theorem B3_ok {e0 e1 e2 e3 e6 e7 e8 e9 e10 e11 e12 e13 : Option U} {c : Cell} (hc : Sk c) (xs : List D) (hx : xs.length ≤ 9) :
    ∃ (s : Sg.S) (c' : Cell), s.Mon ∧ Sk c' ∧ B3 [e0, e1, e2, e3, some (.c 0), some (.c 1), e6, e7, e8, e9, e10, e11, e12, e13] [c, .lst xs] = .nx [e0, e1, e2, e3, some (.c 0), some (.c 1), e6, e7, e8, e9, e10, e11, e12, e13] [c', .lst (xs ++ [sgD s])] := by
  obtain ⟨a, c1, a1, a2, a3⟩ := rising_ok hc
  obtain ⟨b, c2, b1, b2, b3⟩ := rising_ok a2
  obtain ⟨d, c3, d1, d2, d3⟩ := rising_ok b2
  obtain ⟨e, c4, e1', e2', e3'⟩ := rising_ok d2
  obtain ⟨k1, k2⟩ := sg_of a3 b3 d3 e3'
  have hb : xs.length < big := Nat.lt_of_le_of_lt hx (by decide)
  refine ⟨_, c4, k2, e2', ?_⟩
  rw [k1]
  simp [B3, Mir.seqM, Mir.retM, Mir.retNM, Mir.drpM, Mir.asgM, Mir.ifM, Mir.toS, Mir.namG, Mir.tupG, Mir.allG, Mir.lsuG, Mir.varM, Mir.conM, Mir.op2M, Mir.op1M, Mir.tstM, Mir.andM, Mir.orM, Mir.notM, Mir.andT, Mir.orT, Mir.notT, Mir.iteM, Mir.chM, Mir.biM, Mir.isM, Mir.callM, Mir.callC, Mir.callN, Mir.argsM, Mir.O.bind, Mir.rd, Mir.rds, Mir.pures, Mir.tupM, Mir.lstM, Mir.nlsM, Mir.slM, Mir.noP, Mir.someP, Mir.slG, Mir.lcM, Mir.nlcM, Mir.wipeE, Mir.seqI, Mir.rng1I, Mir.rng2I, Mir.zpBI, Mir.seqU, Mir.strI, Mir.forM, Mir.setM, Mir.setC, Mir.parsM, Mir.setUs, Mir.meM, Mir.joinG, Mir.splG, Mir.lenG, Mir.intG, Mir.strG, Mir.listG, Mir.tupleG, Mir.isdic, Mir.isE, Mir.ixG, Mir.addG, Mir.subG, Mir.mulG, Mir.mulOk, Mir.fdivG, Mir.modG, Mir.powG, Mir.negG, Mir.ltG, Mir.leG, Mir.gtG, Mir.geG, Mir.isG, Mir.isNotG, Mir.isNon, Mir.env0, Mir.ins1, Mir.run0, Mir.run1, Mir.runN, Mir.frz, Mir.nxtM, Mir.unM, Mir.appM, Mir.isLst, Mir.kmIx, Mir.kmIn, Mir.scpM, Mir.lowU, a1, b1, d1, e1', hb]
noncomputable def C1 : MS := (ifM (orT (tstM (op2M neG (callM F_join [(varM 7), (varM 8)]) (callM F__law_join [(varM 7), (varM 8)]))) (orT (tstM (op2M neG (callM F_join [(varM 1), (varM 7)]) (varM 7))) (tstM (op2M neG (callM F_join [(varM 7), (varM 1)]) (varM 7))))) (retM (conM (.bl false))) nxtM)
noncomputable def C2 : MS := (ifM (tstM (op2M neG (callM F_join [(callM F_join [(varM 7), (varM 8)]), (varM 9)]) (callM F_join [(varM 7), (callM F_join [(varM 8), (varM 9)])]))) (retM (conM (.bl false))) nxtM)
theorem sg_ne (s : Sg.S) : neG (sgD s) (sgD s) = some (.bl false) := neG_refl (n := 1) rfl
theorem C1_ok {e0 e2 e3 e4 e5 e6 e9 e10 e11 e12 e13 : Option U} {a b : Sg.S} (ha : a.Mon) (hb : b.Mon) (S : Sto) :
    C1 [e0, some (.d (sgD Sg.one)), e2, e3, e4, e5, e6, some (.d (sgD a)), some (.d (sgD b)), e9, e10, e11, e12, e13] S = .nx [e0, some (.d (sgD Sg.one)), e2, e3, e4, e5, e6, some (.d (sgD a)), some (.d (sgD b)), e9, e10, e11, e12, e13] S := by
  have j1 := join_ok ha hb
  have j2 := ljoin_ok ha hb
  have j3 := join_ok Sg.one_mon ha
  have j4 := join_ok ha Sg.one_mon
  rw [Sg.one_join] at j3
  rw [Sg.join_one ha] at j4
  simp [C1, Mir.seqM, Mir.retM, Mir.retNM, Mir.drpM, Mir.asgM, Mir.ifM, Mir.toS, Mir.namG, Mir.tupG, Mir.allG, Mir.lsuG, Mir.varM, Mir.conM, Mir.op2M, Mir.op1M, Mir.tstM, Mir.andM, Mir.orM, Mir.notM, Mir.andT, Mir.orT, Mir.notT, Mir.iteM, Mir.chM, Mir.biM, Mir.isM, Mir.callM, Mir.callC, Mir.callN, Mir.argsM, Mir.O.bind, Mir.rd, Mir.rds, Mir.pures, Mir.tupM, Mir.lstM, Mir.nlsM, Mir.slM, Mir.noP, Mir.someP, Mir.slG, Mir.lcM, Mir.nlcM, Mir.wipeE, Mir.seqI, Mir.rng1I, Mir.rng2I, Mir.zpBI, Mir.seqU, Mir.strI, Mir.forM, Mir.setM, Mir.setC, Mir.parsM, Mir.setUs, Mir.meM, Mir.joinG, Mir.splG, Mir.lenG, Mir.intG, Mir.strG, Mir.listG, Mir.tupleG, Mir.isdic, Mir.isE, Mir.ixG, Mir.addG, Mir.subG, Mir.mulG, Mir.mulOk, Mir.fdivG, Mir.modG, Mir.powG, Mir.negG, Mir.ltG, Mir.leG, Mir.gtG, Mir.geG, Mir.isG, Mir.isNotG, Mir.isNon, Mir.env0, Mir.ins1, Mir.run0, Mir.run1, Mir.runN, Mir.frz, Mir.nxtM, Mir.unM, Mir.appM, Mir.isLst, Mir.kmIx, Mir.kmIn, Mir.scpM, Mir.lowU, j1, j2, j3, j4, sg_ne]
theorem C2_ok {e0 e1 e2 e3 e4 e5 e6 e10 e11 e12 e13 : Option U} {a b d : Sg.S} (ha : a.Mon) (hb : b.Mon) (hd : d.Mon) (S : Sto) :
    C2 [e0, e1, e2, e3, e4, e5, e6, some (.d (sgD a)), some (.d (sgD b)), some (.d (sgD d)), e10, e11, e12, e13] S = .nx [e0, e1, e2, e3, e4, e5, e6, some (.d (sgD a)), some (.d (sgD b)), some (.d (sgD d)), e10, e11, e12, e13] S := by
  have j1 := join_ok ha hb
  have j2 := join_ok (Sg.join_mon ha hb) hd
  have j3 := join_ok hb hd
  have j4 := join_ok ha (Sg.join_mon hb hd)
  rw [Sg.join_assoc ha hb hd] at j2
  simp [C2, Mir.seqM, Mir.retM, Mir.retNM, Mir.drpM, Mir.asgM, Mir.ifM, Mir.toS, Mir.namG, Mir.tupG, Mir.allG, Mir.lsuG, Mir.varM, Mir.conM, Mir.op2M, Mir.op1M, Mir.tstM, Mir.andM, Mir.orM, Mir.notM, Mir.andT, Mir.orT, Mir.notT, Mir.iteM, Mir.chM, Mir.biM, Mir.isM, Mir.callM, Mir.callC, Mir.callN, Mir.argsM, Mir.O.bind, Mir.rd, Mir.rds, Mir.pures, Mir.tupM, Mir.lstM, Mir.nlsM, Mir.slM, Mir.noP, Mir.someP, Mir.slG, Mir.lcM, Mir.nlcM, Mir.wipeE, Mir.seqI, Mir.rng1I, Mir.rng2I, Mir.zpBI, Mir.seqU, Mir.strI, Mir.forM, Mir.setM, Mir.setC, Mir.parsM, Mir.setUs, Mir.meM, Mir.joinG, Mir.splG, Mir.lenG, Mir.intG, Mir.strG, Mir.listG, Mir.tupleG, Mir.isdic, Mir.isE, Mir.ixG, Mir.addG, Mir.subG, Mir.mulG, Mir.mulOk, Mir.fdivG, Mir.modG, Mir.powG, Mir.negG, Mir.ltG, Mir.leG, Mir.gtG, Mir.geG, Mir.isG, Mir.isNotG, Mir.isNon, Mir.env0, Mir.ins1, Mir.run0, Mir.run1, Mir.runN, Mir.frz, Mir.nxtM, Mir.unM, Mir.appM, Mir.isLst, Mir.kmIx, Mir.kmIn, Mir.scpM, Mir.lowU, j1, j2, j3, j4, sg_ne]
noncomputable def CH : MS := (seqM (parsM [12, 13] [(callM F_is_sign [(varM 11)]), (callM F__law_is_sign [(varM 11)])])
    (seqM (ifM (orT (notT (tstM (isM .bool (varM 12)))) (tstM (op2M neG (varM 12) (varM 13)))) (retM (conM (.bl false))) nxtM)
    (ifM (andT (notT (tstM (varM 13))) (notT (andT (tstM (callM F__law_refused [(varM 11), (varM 7)])) (tstM (callM F__law_refused [(varM 7), (varM 11)]))))) (retM (conM (.bl false))) nxtM)))
theorem ne_tt (b : Bool) : neG (.bl b) (.bl b) = some (.bl false) := by cases b <;> rfl
theorem CH_ok {e0 e1 e2 e3 e4 e5 e6 e8 e9 e10 e12 e13 : Option U} {a : Sg.S} (ha : a.Mon) {v : D} (hv : okS v) (S : Sto) :
    CH [e0, e1, e2, e3, e4, e5, e6, some (.d (sgD a)), e8, e9, e10, some (.d v), e12, e13] S = .nx [e0, e1, e2, e3, e4, e5, e6, some (.d (sgD a)), e8, e9, e10, some (.d v), dd (some (.bl (isS v))), dd (some (.bl (isS v)))] S := by
  have h1 := is_sign_ok hv
  have h2 := law_is_sign_ok hv
  cases hs : isS v with
  | true =>
    rw [hs] at h1 h2
    simp [CH, Mir.seqM, Mir.retM, Mir.retNM, Mir.drpM, Mir.asgM, Mir.ifM, Mir.toS, Mir.namG, Mir.tupG, Mir.allG, Mir.lsuG, Mir.varM, Mir.conM, Mir.op2M, Mir.op1M, Mir.tstM, Mir.andM, Mir.orM, Mir.notM, Mir.andT, Mir.orT, Mir.notT, Mir.iteM, Mir.chM, Mir.biM, Mir.isM, Mir.callM, Mir.callC, Mir.callN, Mir.argsM, Mir.O.bind, Mir.rd, Mir.rds, Mir.pures, Mir.tupM, Mir.lstM, Mir.nlsM, Mir.slM, Mir.noP, Mir.someP, Mir.slG, Mir.lcM, Mir.nlcM, Mir.wipeE, Mir.seqI, Mir.rng1I, Mir.rng2I, Mir.zpBI, Mir.seqU, Mir.strI, Mir.forM, Mir.setM, Mir.setC, Mir.parsM, Mir.setUs, Mir.meM, Mir.joinG, Mir.splG, Mir.lenG, Mir.intG, Mir.strG, Mir.listG, Mir.tupleG, Mir.isdic, Mir.isE, Mir.ixG, Mir.addG, Mir.subG, Mir.mulG, Mir.mulOk, Mir.fdivG, Mir.modG, Mir.powG, Mir.negG, Mir.ltG, Mir.leG, Mir.gtG, Mir.geG, Mir.isG, Mir.isNotG, Mir.isNon, Mir.env0, Mir.ins1, Mir.run0, Mir.run1, Mir.runN, Mir.frz, Mir.nxtM, Mir.unM, Mir.appM, Mir.isLst, Mir.kmIx, Mir.kmIn, Mir.scpM, Mir.lowU, h1, h2, ne_tt, dd]
  | false =>
    rw [hs] at h1 h2
    have r1 := refused_l a hv hs
    have r2 := refused_r ha hv hs
    simp [CH, Mir.seqM, Mir.retM, Mir.retNM, Mir.drpM, Mir.asgM, Mir.ifM, Mir.toS, Mir.namG, Mir.tupG, Mir.allG, Mir.lsuG, Mir.varM, Mir.conM, Mir.op2M, Mir.op1M, Mir.tstM, Mir.andM, Mir.orM, Mir.notM, Mir.andT, Mir.orT, Mir.notT, Mir.iteM, Mir.chM, Mir.biM, Mir.isM, Mir.callM, Mir.callC, Mir.callN, Mir.argsM, Mir.O.bind, Mir.rd, Mir.rds, Mir.pures, Mir.tupM, Mir.lstM, Mir.nlsM, Mir.slM, Mir.noP, Mir.someP, Mir.slG, Mir.lcM, Mir.nlcM, Mir.wipeE, Mir.seqI, Mir.rng1I, Mir.rng2I, Mir.zpBI, Mir.seqU, Mir.strI, Mir.forM, Mir.setM, Mir.setC, Mir.parsM, Mir.setUs, Mir.meM, Mir.joinG, Mir.splG, Mir.lenG, Mir.intG, Mir.strG, Mir.listG, Mir.tupleG, Mir.isdic, Mir.isE, Mir.ixG, Mir.addG, Mir.subG, Mir.mulG, Mir.mulOk, Mir.fdivG, Mir.modG, Mir.powG, Mir.negG, Mir.ltG, Mir.leG, Mir.gtG, Mir.geG, Mir.isG, Mir.isNotG, Mir.isNon, Mir.env0, Mir.ins1, Mir.run0, Mir.run1, Mir.runN, Mir.frz, Mir.nxtM, Mir.unM, Mir.appM, Mir.isLst, Mir.kmIx, Mir.kmIn, Mir.scpM, Mir.lowU, h1, h2, ne_tt, r1, r2, dd]
theorem CHs_ok {e0 e1 e2 e3 e4 e5 e6 e8 e9 e10 : Option U} {a : Sg.S} (ha : a.Mon) (S : Sto) : ∀ (vs : List D), (∀ v ∈ vs, okS v) → ∀ (x11 x12 x13 : Option D), ∃ y11 y12 y13 : Option D,
    forL (namG 11) CH vs [e0, e1, e2, e3, e4, e5, e6, some (.d (sgD a)), e8, e9, e10, dd x11, dd x12, dd x13] S = .nx [e0, e1, e2, e3, e4, e5, e6, some (.d (sgD a)), e8, e9, e10, dd y11, dd y12, dd y13] S
  | [], _, x11, x12, x13 => ⟨x11, x12, x13, rfl⟩
  | v :: vs, hv, x11, x12, x13 => by
    obtain ⟨y11, y12, y13, h2⟩ := CHs_ok (e0 := e0) (e1 := e1) (e2 := e2) (e3 := e3) (e4 := e4) (e5 := e5) (e6 := e6) (e8 := e8) (e9 := e9) (e10 := e10) ha S vs (fun w hw => hv w (List.mem_cons_of_mem _ hw)) (some v) (some (.bl (isS v))) (some (.bl (isS v)))
    have h1 := CH_ok (e0 := e0) (e1 := e1) (e2 := e2) (e3 := e3) (e4 := e4) (e5 := e5) (e6 := e6) (e8 := e8) (e9 := e9) (e10 := e10) (e12 := dd x12) (e13 := dd x13) ha (hv v List.mem_cons_self) S
    have hg : namG 11 (.d v) [e0, e1, e2, e3, e4, e5, e6, some (.d (sgD a)), e8, e9, e10, dd x11, dd x12, dd x13] S = some ([e0, e1, e2, e3, e4, e5, e6, some (.d (sgD a)), e8, e9, e10, some (.d v), dd x12, dd x13], S) := rfl
    refine ⟨y11, y12, y13, ?_⟩
    simp only [forL, hg, h1]
    exact h2
def V1 : MS := (asgM (lstM [(varM 7), (slM (varM 7) noP (someP (conM (.int 3)))), (biM listG [(varM 7)]), (op2M addG (slM (varM 7) noP (someP (conM (.int 3)))) (tupM [(conM (.int 65536))])), (op2M addG (slM (varM 7) noP (someP (conM (.int 3)))) (tupM [(op1M negG (conM (.int 1)))])), (op2M addG (tupM [(conM (.bl true))]) (slM (varM 7) (someP (conM (.int 1))) noP)), (conM .non)]) (namG 10))
def V2 : MS := (asgM (op2M addG (varM 10) (lcM (rng1I (conM (.int 6))) (.one 6) yesM (op2M addG (op2M addG (slM (varM 7) noP (someP (conM (.int 2)))) (tupM [(callC 0 F__law_grip [(varM 4), (conM (.int 65536))])])) (slM (varM 7) (someP (conM (.int 3))) noP)) [6])) (namG 10))
def V3 : MS := (asgM (op2M addG (varM 10) (lstM [(op2M mulG (tupM [(conM (.int 65535))]) (conM (.int 4))), (tupM [(conM (.int 1)), (conM (.int 0)), (conM (.int 0)), (conM (.int 0))])])) (namG 10))
def l1D (a : Sg.S) : List D := [sgD a, .tup [.int (n0 a), .int (n1 a), .int (n2 a)], .lst [.int (n0 a), .int (n1 a), .int (n2 a), .int (n3 a)], .tup [.int (n0 a), .int (n1 a), .int (n2 a), .int 65536], .tup [.int (n0 a), .int (n1 a), .int (n2 a), .int (-1)], .tup [.bl true, .int (n1 a), .int (n2 a), .int (n3 a)], .non]
theorem V1_ok {e0 e1 e2 e3 e4 e5 e6 e8 e9 e10 e11 e12 e13 : Option U} {a : Sg.S} (S : Sto) :
    V1 [e0, e1, e2, e3, e4, e5, e6, some (.d (sgD a)), e8, e9, e10, e11, e12, e13] S = .nx [e0, e1, e2, e3, e4, e5, e6, some (.d (sgD a)), e8, e9, some (.d (.lst (l1D a))), e11, e12, e13] S := by
  have q1 : slG (sgD a) none (some 3) = some (.tup [.int (n0 a), .int (n1 a), .int (n2 a)]) := rfl
  have q2 : slG (sgD a) (some 1) none = some (.tup [.int (n1 a), .int (n2 a), .int (n3 a)]) := rfl
  have q3 : listG [sgD a] = some (.lst [.int (n0 a), .int (n1 a), .int (n2 a), .int (n3 a)]) := rfl
  simp [V1, Mir.seqM, Mir.retM, Mir.retNM, Mir.drpM, Mir.asgM, Mir.ifM, Mir.toS, Mir.namG, Mir.tupG, Mir.allG, Mir.lsuG, Mir.varM, Mir.conM, Mir.op2M, Mir.op1M, Mir.tstM, Mir.andM, Mir.orM, Mir.notM, Mir.andT, Mir.orT, Mir.notT, Mir.iteM, Mir.chM, Mir.biM, Mir.isM, Mir.callM, Mir.callC, Mir.callN, Mir.argsM, Mir.O.bind, Mir.rd, Mir.rds, Mir.pures, Mir.tupM, Mir.lstM, Mir.nlsM, Mir.slM, Mir.noP, Mir.someP, Mir.lcM, Mir.nlcM, Mir.wipeE, Mir.seqI, Mir.rng1I, Mir.rng2I, Mir.zpBI, Mir.seqU, Mir.strI, Mir.forM, Mir.setM, Mir.setC, Mir.parsM, Mir.setUs, Mir.meM, Mir.joinG, Mir.splG, Mir.lenG, Mir.intG, Mir.strG, Mir.tupleG, Mir.isdic, Mir.isE, Mir.ixG, Mir.addG, Mir.subG, Mir.mulG, Mir.mulOk, Mir.fdivG, Mir.modG, Mir.powG, Mir.negG, Mir.ltG, Mir.leG, Mir.gtG, Mir.geG, Mir.isG, Mir.isNotG, Mir.isNon, Mir.env0, Mir.ins1, Mir.run0, Mir.run1, Mir.runN, Mir.frz, Mir.nxtM, Mir.unM, Mir.appM, Mir.isLst, Mir.kmIx, Mir.kmIn, Mir.scpM, Mir.lowU, q1, q2, q3, big, l1D]
theorem V2_ok {e0 e1 e2 e3 e5 e6 e8 e9 e11 e12 e13 : Option U} {a : Sg.S} {c : Cell} (hc : Sk c) (W : Cell) :
    ∃ (ys : List D) (c' : Cell), Sk c' ∧ ys.length = 6 ∧ (∀ y ∈ ys, ∃ n : Int, y = .tup [.int (n0 a), .int (n1 a), .int n, .int (n3 a)]) ∧
    V2 [e0, e1, e2, e3, some (.c 0), e5, e6, some (.d (sgD a)), e8, e9, some (.d (.lst (l1D a))), e11, e12, e13] [c, W] = .nx [e0, e1, e2, e3, some (.c 0), e5, e6, some (.d (sgD a)), e8, e9, some (.d (.lst (l1D a ++ ys))), e11, e12, e13] [c', W] := by
  have q1 : slG (sgD a) none (some 2) = some (.tup [.int (n0 a), .int (n1 a)]) := rfl
  have q2 : slG (sgD a) (some 3) none = some (.tup [.int (n3 a)]) := rfl
  obtain ⟨ys, S', l1, ⟨c', rfl, s2⟩, l3, l4⟩ := lcL_inv (tg := .one 6) (t := yesM) (f := (op2M addG (op2M addG (slM (varM 7) noP (someP (conM (.int 2)))) (tupM [(callC 0 F__law_grip [(varM 4), (conM (.int 65536))])])) (slM (varM 7) (someP (conM (.int 3))) noP)))
    (ρ0 := [e0, e1, e2, e3, some (.c 0), e5, none, some (.d (sgD a)), e8, e9, some (.d (.lst (l1D a))), e11, e12, e13]) (fun S => ∃ c, S = [c, W] ∧ Sk c) (fun y => ∃ n : Int, y = .tup [.int (n0 a), .int (n1 a), .int n, .int (n3 a)]) [.int 0, .int 1, .int 2, .int 3, .int 4, .int 5] [c, W] (fun d hd S ⟨c, hS, hc⟩ => by
    subst hS
    obtain ⟨r, c2, r1, r2, r3, r4⟩ := grip_ok hc (many := 65536) (by decide) (.inr (by decide))
    refine ⟨_, [c, W], .tup [.int (n0 a), .int (n1 a), .int r, .int (n3 a)], [c2, W], rfl, rfl, ?_, ⟨c2, rfl, r2⟩, r, rfl⟩
    simp [Mir.seqM, Mir.retM, Mir.retNM, Mir.drpM, Mir.asgM, Mir.ifM, Mir.toS, Mir.namG, Mir.tupG, Mir.allG, Mir.lsuG, Mir.varM, Mir.conM, Mir.op2M, Mir.op1M, Mir.tstM, Mir.andM, Mir.orM, Mir.notM, Mir.andT, Mir.orT, Mir.notT, Mir.iteM, Mir.chM, Mir.biM, Mir.isM, Mir.callM, Mir.callC, Mir.callN, Mir.argsM, Mir.O.bind, Mir.rd, Mir.rds, Mir.pures, Mir.tupM, Mir.lstM, Mir.nlsM, Mir.slM, Mir.noP, Mir.someP, Mir.lcM, Mir.nlcM, Mir.wipeE, Mir.seqI, Mir.rng1I, Mir.rng2I, Mir.zpBI, Mir.seqU, Mir.strI, Mir.forM, Mir.setM, Mir.setC, Mir.parsM, Mir.setUs, Mir.meM, Mir.joinG, Mir.splG, Mir.lenG, Mir.intG, Mir.strG, Mir.listG, Mir.tupleG, Mir.isdic, Mir.isE, Mir.ixG, Mir.addG, Mir.subG, Mir.mulG, Mir.mulOk, Mir.fdivG, Mir.modG, Mir.powG, Mir.negG, Mir.ltG, Mir.leG, Mir.gtG, Mir.geG, Mir.isG, Mir.isNotG, Mir.isNon, Mir.env0, Mir.ins1, Mir.run0, Mir.run1, Mir.runN, Mir.frz, Mir.nxtM, Mir.unM, Mir.appM, Mir.isLst, Mir.kmIx, Mir.kmIn, Mir.scpM, Mir.lowU, q1, q2, r1, big]) ⟨c, rfl, hc⟩
  refine ⟨ys, c', s2, l3, l4, ?_⟩
  have hl : ys.length = 6 := l3
  have hL : (l1D a).length = 7 := rfl
  simp [V2, Mir.seqM, Mir.retM, Mir.retNM, Mir.drpM, Mir.asgM, Mir.ifM, Mir.toS, Mir.namG, Mir.tupG, Mir.allG, Mir.lsuG, Mir.varM, Mir.conM, Mir.op2M, Mir.op1M, Mir.tstM, Mir.andM, Mir.orM, Mir.notM, Mir.andT, Mir.orT, Mir.notT, Mir.iteM, Mir.chM, Mir.biM, Mir.isM, Mir.callM, Mir.callC, Mir.callN, Mir.argsM, Mir.O.bind, Mir.rd, Mir.rds, Mir.pures, Mir.tupM, Mir.lstM, Mir.nlsM, Mir.slM, Mir.noP, Mir.someP, Mir.lcM, Mir.nlcM, Mir.wipeE, Mir.seqI, Mir.rng1I, Mir.rng2I, Mir.zpBI, Mir.seqU, Mir.strI, Mir.forM, Mir.setM, Mir.setC, Mir.parsM, Mir.setUs, Mir.meM, Mir.joinG, Mir.splG, Mir.lenG, Mir.intG, Mir.strG, Mir.listG, Mir.tupleG, Mir.isdic, Mir.isE, Mir.ixG, Mir.addG, Mir.subG, Mir.mulG, Mir.mulOk, Mir.fdivG, Mir.modG, Mir.powG, Mir.negG, Mir.ltG, Mir.leG, Mir.gtG, Mir.geG, Mir.isG, Mir.isNotG, Mir.isNon, Mir.env0, Mir.ins1, Mir.run0, Mir.run1, Mir.runN, Mir.frz, Mir.nxtM, Mir.unM, Mir.appM, Mir.isLst, Mir.kmIx, Mir.kmIn, Mir.scpM, Mir.lowU, l1, List.range, List.range.loop, big, hl, hL]
theorem V3_ok {e0 e1 e2 e3 e4 e5 e6 e7 e8 e9 e11 e12 e13 : Option U} (xs : List D) (hx : xs.length ≤ 100) (S : Sto) :
    V3 [e0, e1, e2, e3, e4, e5, e6, e7, e8, e9, some (.d (.lst xs)), e11, e12, e13] S = .nx [e0, e1, e2, e3, e4, e5, e6, e7, e8, e9, some (.d (.lst (xs ++ [.tup [.int 65535, .int 65535, .int 65535, .int 65535], .tup [.int 1, .int 0, .int 0, .int 0]]))), e11, e12, e13] S := by
  have hb : xs.length + 2 ≤ big := Nat.le_trans (m := 102) (by omega) (by decide)
  have q : mulG (.tup [.int 65535]) (.int 4) = some (.tup [.int 65535, .int 65535, .int 65535, .int 65535]) := rfl
  simp [V3, Mir.seqM, Mir.retM, Mir.retNM, Mir.drpM, Mir.asgM, Mir.ifM, Mir.toS, Mir.namG, Mir.tupG, Mir.allG, Mir.lsuG, Mir.varM, Mir.conM, Mir.op2M, Mir.op1M, Mir.tstM, Mir.andM, Mir.orM, Mir.notM, Mir.andT, Mir.orT, Mir.notT, Mir.iteM, Mir.chM, Mir.biM, Mir.isM, Mir.callM, Mir.callC, Mir.callN, Mir.argsM, Mir.O.bind, Mir.rd, Mir.rds, Mir.pures, Mir.tupM, Mir.lstM, Mir.nlsM, Mir.slM, Mir.noP, Mir.someP, Mir.slG, Mir.lcM, Mir.nlcM, Mir.wipeE, Mir.seqI, Mir.rng1I, Mir.rng2I, Mir.zpBI, Mir.seqU, Mir.strI, Mir.forM, Mir.setM, Mir.setC, Mir.parsM, Mir.setUs, Mir.meM, Mir.joinG, Mir.splG, Mir.lenG, Mir.intG, Mir.strG, Mir.listG, Mir.tupleG, Mir.isdic, Mir.isE, Mir.ixG, Mir.addG, Mir.subG, Mir.mulOk, Mir.fdivG, Mir.modG, Mir.powG, Mir.negG, Mir.ltG, Mir.leG, Mir.gtG, Mir.geG, Mir.isG, Mir.isNotG, Mir.isNon, Mir.env0, Mir.ins1, Mir.run0, Mir.run1, Mir.runN, Mir.frz, Mir.nxtM, Mir.unM, Mir.appM, Mir.isLst, Mir.kmIx, Mir.kmIn, Mir.scpM, Mir.lowU, q, hb]
theorem vals_ok (a : Sg.S) {ys : List D} (hy : ∀ y ∈ ys, ∃ n : Int, y = .tup [.int (n0 a), .int (n1 a), .int n, .int (n3 a)]) : ∀ v ∈ (l1D a ++ ys) ++ [.tup [.int 65535, .int 65535, .int 65535, .int 65535], .tup [.int 1, .int 0, .int 0, .int 0]], okS v := by
  intro v hv
  have tp : ∀ (ds : List D), ds.length ≤ 8 → (∀ d ∈ ds, numT d) → okS (.tup ds) := fun ds h1 h2 => ⟨h1, h2⟩
  rw [List.mem_append, List.mem_append] at hv
  rcases hv with (hv | hv) | hv
  · simp only [l1D, List.mem_cons, List.not_mem_nil, or_false] at hv
    rcases hv with rfl | rfl | rfl | rfl | rfl | rfl | rfl
    · exact okS_sg a
    · exact tp _ (by simp) (by simp [numT])
    · exact (by simp : [D.int (n0 a), D.int (n1 a), D.int (n2 a), D.int (n3 a)].length ≤ 8)
    · exact tp _ (by simp) (by simp [numT])
    · exact tp _ (by simp) (by simp [numT])
    · exact tp _ (by simp) (by simp [numT])
    · trivial
  · obtain ⟨n, rfl⟩ := hy v hv
    exact tp _ (by simp) (by simp [numT])
  · simp only [List.mem_cons, List.not_mem_nil, or_false] at hv
    rcases hv with rfl | rfl
    · exact tp _ (by simp) (by simp [numT])
    · exact tp _ (by simp) (by simp [numT])
noncomputable def TB : MS := (seqM (asgM (callN F__law_sack [(varM 2), (conM (.int 15))]) (namG 4))
    (seqM (asgM (nlsM []) (namG 5))
    (seqM (Mir.forM (rng1I (conM (.int 3))) (namG 6) B3)
    (seqM (asgM (varM 5) (lsuG [(namG 7), (namG 8), (namG 9)]))
    (seqM C1 (seqM C2 (seqM V1 (seqM V2 (seqM V3 (Mir.forM (seqI (varM 10)) (namG 11) CH))))))))))
theorem m_law_eq : m_law = (seqM (asgM (tupM [(conM (.int 61680)), (conM (.int 65280)), (conM (.int 43690)), (conM (.int 52428))]) (namG 1))
    (seqM (Mir.forM (seqI (slM (op2M addG (lstM [(conM (.int 0))]) (varM 0)) noP (someP (conM (.int 6))))) (namG 2) (scpM [4, 5] TB))
    (seqM (asgM (tupM [(tupM [(conM (.str "right"))]), (tupM [(conM (.str "right"))])]) (namG 3))
    (seqM (ifM (orT (tstM (op2M neG (callM F_sign [(tupM [(varM 3)]), (tupM []), (conM (.str "first"))]) (varM 1))) (tstM (op2M isNotG (callM F_is_sign [(tupM [(conM (.int 0)), (conM (.int 0)), (conM (.int 0)), (conM (.int 0))])]) (conM (.bl true))))) (retM (conM (.bl false))) nxtM)
    (retM (op2M eqG (callM F_join [(tupM [(conM (.int 0)), (conM (.int 0)), (conM (.int 0)), (conM (.int 0))]), (op2M mulG (tupM [(conM (.int 65535))]) (conM (.int 4)))]) (tupM [(conM (.int 0)), (conM (.int 0)), (conM (.int 65535)), (conM (.int 65535))]))))))) := rfl
theorem turn_ok (sc : D) (i : Int) (x3 x6 x7 x8 x9 x10 x11 x12 x13 : Option D) : ∃ y3 y6 y7 y8 y9 y10 y11 y12 y13 : Option D,
    scpM [4, 5] TB [some (.d sc), some (.d (sgD Sg.one)), some (.d (.int i)), dd x3, none, none, dd x6, dd x7, dd x8, dd x9, dd x10, dd x11, dd x12, dd x13] [] = .nx [some (.d sc), some (.d (sgD Sg.one)), some (.d (.int i)), dd y3, none, none, dd y6, dd y7, dd y8, dd y9, dd y10, dd y11, dd y12, dd y13] [] := by
  obtain ⟨c, g1, g2⟩ := sack_ok i 15
  obtain ⟨a, c1, a1, a2, a3⟩ := B3_ok (e0 := some (.d sc)) (e1 := some (.d (sgD Sg.one))) (e2 := some (.d (.int i))) (e3 := dd x3) (e6 := some (.d (.int 0))) (e7 := dd x7) (e8 := dd x8) (e9 := dd x9) (e10 := dd x10) (e11 := dd x11) (e12 := dd x12) (e13 := dd x13) g2 [] (by simp)
  obtain ⟨b, c2, b1, b2, b3⟩ := B3_ok (e0 := some (.d sc)) (e1 := some (.d (sgD Sg.one))) (e2 := some (.d (.int i))) (e3 := dd x3) (e6 := some (.d (.int 1))) (e7 := dd x7) (e8 := dd x8) (e9 := dd x9) (e10 := dd x10) (e11 := dd x11) (e12 := dd x12) (e13 := dd x13) a2 [sgD a] (by simp)
  obtain ⟨d, c3, d1, d2, d3⟩ := B3_ok (e0 := some (.d sc)) (e1 := some (.d (sgD Sg.one))) (e2 := some (.d (.int i))) (e3 := dd x3) (e6 := some (.d (.int 2))) (e7 := dd x7) (e8 := dd x8) (e9 := dd x9) (e10 := dd x10) (e11 := dd x11) (e12 := dd x12) (e13 := dd x13) b2 [sgD a, sgD b] (by simp)
  simp only [List.nil_append, List.cons_append] at a3 b3 d3
  have h1 := C1_ok (e0 := some (.d sc)) (e2 := some (.d (.int i))) (e3 := dd x3) (e4 := some (.c 0)) (e5 := some (.c 1)) (e6 := some (.d (.int 2))) (e9 := some (.d (sgD d))) (e10 := dd x10) (e11 := dd x11) (e12 := dd x12) (e13 := dd x13) a1 b1 [c3, .lst [sgD a, sgD b, sgD d]]
  have h2 := C2_ok (e0 := some (.d sc)) (e1 := some (.d (sgD Sg.one))) (e2 := some (.d (.int i))) (e3 := dd x3) (e4 := some (.c 0)) (e5 := some (.c 1)) (e6 := some (.d (.int 2))) (e10 := dd x10) (e11 := dd x11) (e12 := dd x12) (e13 := dd x13) a1 b1 d1 [c3, .lst [sgD a, sgD b, sgD d]]
  have h3 := V1_ok (a := a) (e0 := some (.d sc)) (e1 := some (.d (sgD Sg.one))) (e2 := some (.d (.int i))) (e3 := dd x3) (e4 := some (.c 0)) (e5 := some (.c 1)) (e6 := some (.d (.int 2))) (e8 := some (.d (sgD b))) (e9 := some (.d (sgD d))) (e10 := dd x10) (e11 := dd x11) (e12 := dd x12) (e13 := dd x13) [c3, .lst [sgD a, sgD b, sgD d]]
  obtain ⟨ys, c4, s4, hl, hy, h4⟩ := V2_ok (a := a) (e0 := some (.d sc)) (e1 := some (.d (sgD Sg.one))) (e2 := some (.d (.int i))) (e3 := dd x3) (e5 := some (.c 1)) (e6 := some (.d (.int 2))) (e8 := some (.d (sgD b))) (e9 := some (.d (sgD d))) (e11 := dd x11) (e12 := dd x12) (e13 := dd x13) d2 (.lst [sgD a, sgD b, sgD d])
  have hL : (l1D a ++ ys).length ≤ 100 := by rw [List.length_append, hl]; exact Nat.le_of_ble_eq_true rfl
  have h5 := V3_ok (e0 := some (.d sc)) (e1 := some (.d (sgD Sg.one))) (e2 := some (.d (.int i))) (e3 := dd x3) (e4 := some (.c 0)) (e5 := some (.c 1)) (e6 := some (.d (.int 2))) (e7 := some (.d (sgD a))) (e8 := some (.d (sgD b))) (e9 := some (.d (sgD d))) (e11 := dd x11) (e12 := dd x12) (e13 := dd x13) (l1D a ++ ys) hL [c4, .lst [sgD a, sgD b, sgD d]]
  obtain ⟨y11, y12, y13, h6⟩ := CHs_ok (a := a) (e0 := some (.d sc)) (e1 := some (.d (sgD Sg.one))) (e2 := some (.d (.int i))) (e3 := dd x3) (e4 := some (.c 0)) (e5 := some (.c 1)) (e6 := some (.d (.int 2))) (e8 := some (.d (sgD b))) (e9 := some (.d (sgD d))) (e10 := some (.d (.lst ((l1D a ++ ys) ++ [.tup [.int 65535, .int 65535, .int 65535, .int 65535], .tup [.int 1, .int 0, .int 0, .int 0]])))) a1 [c4, .lst [sgD a, sgD b, sgD d]] _ (vals_ok a hy) x11 x12 x13
  refine ⟨x3, some (.int 2), some (sgD a), some (sgD b), some (sgD d), some (.lst ((l1D a ++ ys) ++ [.tup [.int 65535, .int 65535, .int 65535, .int 65535], .tup [.int 1, .int 0, .int 0, .int 0]])), y11, y12, y13, ?_⟩
  have r3 : List.range 3 = [0, 1, 2] := rfl
  have f3 : forL (namG 6) B3 [.int 0, .int 1, .int 2] [some (.d sc), some (.d (sgD Sg.one)), some (.d (.int i)), dd x3, some (.c 0), some (.c 1), dd x6, dd x7, dd x8, dd x9, dd x10, dd x11, dd x12, dd x13] [c, .lst []] = .nx [some (.d sc), some (.d (sgD Sg.one)), some (.d (.int i)), dd x3, some (.c 0), some (.c 1), some (.d (.int 2)), dd x7, dd x8, dd x9, dd x10, dd x11, dd x12, dd x13] [c3, .lst [sgD a, sgD b, sgD d]] := by
    simp [forL, Mir.namG, a3, b3, d3]
  have e : TB [some (.d sc), some (.d (sgD Sg.one)), some (.d (.int i)), dd x3, none, none, dd x6, dd x7, dd x8, dd x9, dd x10, dd x11, dd x12, dd x13] [] = .nx [some (.d sc), some (.d (sgD Sg.one)), some (.d (.int i)), dd x3, some (.c 0), some (.c 1), some (.d (.int 2)), some (.d (sgD a)), some (.d (sgD b)), some (.d (sgD d)), some (.d (.lst ((l1D a ++ ys) ++ [.tup [.int 65535, .int 65535, .int 65535, .int 65535], .tup [.int 1, .int 0, .int 0, .int 0]]))), dd y11, dd y12, dd y13] [c4, .lst [sgD a, sgD b, sgD d]] := by
    simp only [List.append_assoc] at h5 h6 ⊢
    simp [TB, Mir.seqM, Mir.retM, Mir.retNM, Mir.drpM, Mir.asgM, Mir.ifM, Mir.toS, Mir.namG, Mir.tupG, Mir.allG, Mir.lsuG, Mir.varM, Mir.conM, Mir.op2M, Mir.op1M, Mir.tstM, Mir.andM, Mir.orM, Mir.notM, Mir.andT, Mir.orT, Mir.notT, Mir.iteM, Mir.chM, Mir.biM, Mir.isM, Mir.callM, Mir.callC, Mir.callN, Mir.argsM, Mir.O.bind, Mir.rd, Mir.rds, Mir.pures, Mir.tupM, Mir.lstM, Mir.nlsM, Mir.slM, Mir.noP, Mir.someP, Mir.slG, Mir.lcM, Mir.nlcM, Mir.wipeE, Mir.seqI, Mir.rng1I, Mir.rng2I, Mir.zpBI, Mir.seqU, Mir.strI, Mir.forM, Mir.setM, Mir.setC, Mir.parsM, Mir.setUs, Mir.meM, Mir.joinG, Mir.splG, Mir.lenG, Mir.intG, Mir.strG, Mir.listG, Mir.tupleG, Mir.isdic, Mir.isE, Mir.ixG, Mir.addG, Mir.subG, Mir.mulG, Mir.mulOk, Mir.fdivG, Mir.modG, Mir.powG, Mir.negG, Mir.ltG, Mir.leG, Mir.gtG, Mir.geG, Mir.isG, Mir.isNotG, Mir.isNon, Mir.env0, Mir.ins1, Mir.run0, Mir.run1, Mir.runN, Mir.frz, Mir.nxtM, Mir.unM, Mir.appM, Mir.isLst, Mir.kmIx, Mir.kmIn, Mir.scpM, Mir.lowU, g1, r3, f3, h1, h2, h3, h4, h5, h6]
  simp only [Mir.scpM, e]
  simp [Mir.wipeE, low_dd, Mir.lowU, dd]
theorem turns_ok (sc : D) : ∀ (is : List Int) (x2 x3 x6 x7 x8 x9 x10 x11 x12 x13 : Option D), ∃ y2 y3 y6 y7 y8 y9 y10 y11 y12 y13 : Option D,
    forL (namG 2) (scpM [4, 5] TB) (is.map .int) [some (.d sc), some (.d (sgD Sg.one)), dd x2, dd x3, none, none, dd x6, dd x7, dd x8, dd x9, dd x10, dd x11, dd x12, dd x13] [] = .nx [some (.d sc), some (.d (sgD Sg.one)), dd y2, dd y3, none, none, dd y6, dd y7, dd y8, dd y9, dd y10, dd y11, dd y12, dd y13] []
  | [], x2, x3, x6, x7, x8, x9, x10, x11, x12, x13 => ⟨x2, x3, x6, x7, x8, x9, x10, x11, x12, x13, rfl⟩
  | i :: is, x2, x3, x6, x7, x8, x9, x10, x11, x12, x13 => by
    obtain ⟨y3, y6, y7, y8, y9, y10, y11, y12, y13, h1⟩ := turn_ok sc i x3 x6 x7 x8 x9 x10 x11 x12 x13
    obtain ⟨z2, z3, z6, z7, z8, z9, z10, z11, z12, z13, h2⟩ := turns_ok sc is (some (.int i)) y3 y6 y7 y8 y9 y10 y11 y12 y13
    have hg : namG 2 (.d (.int i)) [some (.d sc), some (.d (sgD Sg.one)), dd x2, dd x3, none, none, dd x6, dd x7, dd x8, dd x9, dd x10, dd x11, dd x12, dd x13] [] = some ([some (.d sc), some (.d (sgD Sg.one)), some (.d (.int i)), dd x3, none, none, dd x6, dd x7, dd x8, dd x9, dd x10, dd x11, dd x12, dd x13], []) := rfl
    refine ⟨z2, z3, z6, z7, z8, z9, z10, z11, z12, z13, ?_⟩
    simp only [List.map_cons, forL, hg, h1]
    exact h2
def zeroS : Sg.S := ⟨fun _ _ => (false, false), fun _ _ => (false, false)⟩
def fullS : Sg.S := ⟨fun _ _ => (true, true), fun _ _ => (true, true)⟩
theorem zero_mon : zeroS.Mon := ⟨fun _ _ => Sg.le_refl _, fun _ _ => Sg.le_refl _⟩
theorem full_mon : fullS.Mon := ⟨fun _ _ => Sg.le_refl _, fun _ _ => Sg.le_refl _⟩
def isI4 (a b c d : Int) : D := .tup [.int a, .int b, .int c, .int d]
theorem one_num : sgD Sg.one = isI4 61680 65280 43690 52428 := by
  have h : n0 Sg.one = 61680 ∧ n1 Sg.one = 65280 ∧ n2 Sg.one = 43690 ∧ n3 Sg.one = 52428 := by decide +kernel
  obtain ⟨a, b, c, d⟩ := h
  unfold sgD isI4; rw [a, b, c, d]
theorem zero_num : sgD zeroS = isI4 0 0 0 0 := by
  have h : n0 zeroS = 0 ∧ n1 zeroS = 0 ∧ n2 zeroS = 0 ∧ n3 zeroS = 0 := by decide +kernel
  obtain ⟨a, b, c, d⟩ := h
  unfold sgD isI4; rw [a, b, c, d]
theorem full_num : sgD fullS = isI4 65535 65535 65535 65535 := by
  have h : n0 fullS = 65535 ∧ n1 fullS = 65535 ∧ n2 fullS = 65535 ∧ n3 fullS = 65535 := by decide +kernel
  obtain ⟨a, b, c, d⟩ := h
  unfold sgD isI4; rw [a, b, c, d]
theorem zf_num : sgD (Sg.join zeroS fullS) = isI4 0 0 65535 65535 := by
  have h : n0 (Sg.join zeroS fullS) = 0 ∧ n1 (Sg.join zeroS fullS) = 0 ∧ n2 (Sg.join zeroS fullS) = 65535 ∧ n3 (Sg.join zeroS fullS) = 65535 := by decide +kernel
  obtain ⟨a, b, c, d⟩ := h
  unfold sgD isI4; rw [a, b, c, d]
theorem sign_chk : isOk (F_sign [.tup [.tup [.tup [.str "right"], .tup [.str "right"]]], .tup [], .str "first"]) (isI4 61680 65280 43690 52428) = true := by decide +kernel
theorem law_true (ns : List Int) (hns : ns.length ≤ 63) : F_law [.scr ns] = .ok (.bl true) := by
  have hadd : addG (.lst [.int 0]) (.scr ns) = some (.lst (.int 0 :: ns.map D.int)) := by
    have : 1 + ns.length ≤ big := by unfold big; omega
    simp [addG, this]
  have hcut : slG (.lst (.int 0 :: ns.map D.int)) none (some 6) = some (.lst ((0 :: ns.take 5).map D.int)) := by
    simp only [slG, cutL, HT.sIx, List.drop_zero, Nat.sub_zero, List.length_cons]
    rw [if_neg (by decide)]
    have h10 : (6 : Int).toNat = 6 := rfl
    rw [h10, List.map_cons, List.map_take]
    rcases Nat.le_total 6 ((ns.map D.int).length + 1) with h | h
    · rw [Nat.min_eq_left h]; rfl
    · rw [Nat.min_eq_right h, List.take_of_length_le (by simp), List.take_of_length_le (by omega)]
  obtain ⟨y2, y3, y6, y7, y8, y9, y10, y11, y12, y13, h⟩ := turns_ok (.scr ns) (0 :: ns.take 5) none none none none none none none none none none
  rw [one_num] at h
  unfold isI4 at h
  have s1 := isOk_eq sign_chk
  unfold isI4 at s1
  have s2 := is_sign_ok (okS_sg zeroS)
  rw [isS_sg zero_mon, zero_num] at s2
  unfold isI4 at s2
  have s3 := join_ok zero_mon full_mon
  rw [zero_num, full_num, zf_num] at s3
  unfold isI4 at s3
  have q : mulG (.tup [.int 65535]) (.int 4) = some (.tup [.int 65535, .int 65535, .int 65535, .int 65535]) := rfl
  have e1 : neG (.tup [.int 61680, .int 65280, .int 43690, .int 52428]) (.tup [.int 61680, .int 65280, .int 43690, .int 52428]) = some (.bl false) := neG_refl (n := 1) rfl
  have e2 : eqG (.tup [.int 0, .int 0, .int 65535, .int 65535]) (.tup [.int 0, .int 0, .int 65535, .int 65535]) = some (.bl true) := eqG_refl (n := 1) rfl
  simp only [dd, Option.map_none, List.map_cons, List.map_take] at h
  simp [F_law, m_law_eq, Mir.seqM, Mir.retM, Mir.retNM, Mir.drpM, Mir.asgM, Mir.ifM, Mir.toS, Mir.namG, Mir.tupG, Mir.allG, Mir.lsuG, Mir.varM, Mir.conM, Mir.op2M, Mir.op1M, Mir.tstM, Mir.andM, Mir.orM, Mir.notM, Mir.andT, Mir.orT, Mir.notT, Mir.iteM, Mir.chM, Mir.biM, Mir.isM, Mir.callM, Mir.callC, Mir.callN, Mir.argsM, Mir.O.bind, Mir.rd, Mir.rds, Mir.pures, Mir.tupM, Mir.lstM, Mir.nlsM, Mir.slM, Mir.noP, Mir.someP, Mir.lcM, Mir.nlcM, Mir.wipeE, Mir.seqI, Mir.rng1I, Mir.rng2I, Mir.zpBI, Mir.seqU, Mir.strI, Mir.forM, Mir.setM, Mir.setC, Mir.parsM, Mir.setUs, Mir.meM, Mir.joinG, Mir.splG, Mir.lenG, Mir.intG, Mir.strG, Mir.listG, Mir.tupleG, Mir.isdic, Mir.isE, Mir.ixG, Mir.subG, Mir.mulOk, Mir.fdivG, Mir.modG, Mir.powG, Mir.negG, Mir.ltG, Mir.leG, Mir.gtG, Mir.geG, Mir.isG, Mir.isNotG, Mir.isNon, Mir.env0, Mir.ins1, Mir.run0, Mir.run1, Mir.runN, Mir.frz, Mir.nxtM, Mir.unM, Mir.appM, Mir.isLst, Mir.kmIx, Mir.kmIn, Mir.scpM, Mir.lowU, hadd, hcut, h, s1, s2, s3, q, e1, e2]

/-! ### what the top has left; the law -/
theorem all_mk {l : PySem.W.OpenLaw} {w : World} {K : PySem.W.Frag} {h : Heap} {mg : Str → Option Value} {fa : Addr} (X : K.In h) (G : h.Ns mainGlobals mg) (hfa : mg "law" = some (.ref fa))
    {f0 : Addr} {od0 an0 : Option Addr} {sl0 : Array (Option Value)} {oc0 kV0 dc0 pm0 cd0 ct0 : Value}
    {f1 : Addr} {od1 an1 : Option Addr} {sl1 : Array (Option Value)} {oc1 kV1 dc1 pm1 cd1 ct1 : Value}
    {f2 : Addr} {od2 an2 : Option Addr} {sl2 : Array (Option Value)} {oc2 kV2 dc2 pm2 cd2 ct2 : Value}
    {f3 : Addr} {od3 an3 : Option Addr} {sl3 : Array (Option Value)} {oc3 kV3 dc3 pm3 cd3 ct3 : Value}
    {f4 : Addr} {od4 an4 : Option Addr} {sl4 : Array (Option Value)} {oc4 kV4 dc4 pm4 cd4 ct4 : Value}
    {f5 : Addr} {od5 an5 : Option Addr} {sl5 : Array (Option Value)} {oc5 kV5 dc5 pm5 cd5 ct5 : Value}
    {f6 : Addr} {od6 an6 : Option Addr} {sl6 : Array (Option Value)} {oc6 kV6 dc6 pm6 cd6 ct6 : Value}
    {f7 : Addr} {od7 an7 : Option Addr} {sl7 : Array (Option Value)} {oc7 kV7 dc7 pm7 cd7 ct7 : Value}
    {f8 : Addr} {od8 an8 : Option Addr} {sl8 : Array (Option Value)} {oc8 kV8 dc8 pm8 cd8 ct8 : Value}
    {f9 : Addr} {od9 an9 : Option Addr} {sl9 : Array (Option Value)} {oc9 kV9 dc9 pm9 cd9 ct9 : Value}
    {f10 : Addr} {od10 an10 : Option Addr} {sl10 : Array (Option Value)} {oc10 kV10 dc10 pm10 cd10 ct10 : Value}
    {f11 : Addr} {od11 an11 : Option Addr} {sl11 : Array (Option Value)} {oc11 kV11 dc11 pm11 cd11 ct11 : Value}
    {f12 : Addr} {od12 an12 : Option Addr} {sl12 : Array (Option Value)} {oc12 kV12 dc12 pm12 cd12 ct12 : Value}
    {f13 : Addr} {od13 an13 : Option Addr} {sl13 : Array (Option Value)} {oc13 kV13 dc13 pm13 cd13 ct13 : Value}
    {f14 : Addr} {od14 an14 : Option Addr} {sl14 : Array (Option Value)} {oc14 kV14 dc14 pm14 cd14 ct14 : Value}
    {f15 : Addr} {od15 an15 : Option Addr} {sl15 : Array (Option Value)} {oc15 kV15 dc15 pm15 cd15 ct15 : Value}
    {f16 : Addr} {od16 an16 : Option Addr} {sl16 : Array (Option Value)} {oc16 kV16 dc16 pm16 cd16 ct16 : Value}
    {f17 : Addr} {od17 an17 : Option Addr} {sl17 : Array (Option Value)} {oc17 kV17 dc17 pm17 cd17 ct17 : Value}
    {f18 : Addr} {od18 an18 : Option Addr} {sl18 : Array (Option Value)} {oc18 kV18 dc18 pm18 cd18 ct18 : Value}
    {f19 : Addr} {od19 an19 : Option Addr} {sl19 : Array (Option Value)} {oc19 kV19 dc19 pm19 cd19 ct19 : Value}
    {f20 : Addr} {od20 an20 : Option Addr} {sl20 : Array (Option Value)} {oc20 kV20 dc20 pm20 cd20 ct20 : Value}
    {f21 : Addr} {od21 an21 : Option Addr} {sl21 : Array (Option Value)} {oc21 kV21 dc21 pm21 cd21 ct21 : Value}
    {f22 : Addr} {od22 an22 : Option Addr} {sl22 : Array (Option Value)} {oc22 kV22 dc22 pm22 cd22 ct22 : Value}
    {f23 : Addr} {od23 an23 : Option Addr} {sl23 : Array (Option Value)} {oc23 kV23 dc23 pm23 cd23 ct23 : Value}
    {f24 : Addr} {od24 an24 : Option Addr} {sl24 : Array (Option Value)} {oc24 kV24 dc24 pm24 cd24 ct24 : Value}
    {f25 : Addr} {od25 an25 : Option Addr} {sl25 : Array (Option Value)} {oc25 kV25 dc25 pm25 cd25 ct25 : Value}
    {f26 : Addr} {od26 an26 : Option Addr} {sl26 : Array (Option Value)} {oc26 kV26 dc26 pm26 cd26 ct26 : Value}
    {f27 : Addr} {od27 an27 : Option Addr} {sl27 : Array (Option Value)} {oc27 kV27 dc27 pm27 cd27 ct27 : Value}
    {f28 : Addr} {od28 an28 : Option Addr} {sl28 : Array (Option Value)} {oc28 kV28 dc28 pm28 cd28 ct28 : Value}
    {f29 : Addr} {od29 an29 : Option Addr} {sl29 : Array (Option Value)} {oc29 kV29 dc29 pm29 cd29 ct29 : Value}
    {f30 : Addr} {od30 an30 : Option Addr} {sl30 : Array (Option Value)} {oc30 kV30 dc30 pm30 cd30 ct30 : Value}
    {f31 : Addr} {od31 an31 : Option Addr} {sl31 : Array (Option Value)} {oc31 kV31 dc31 pm31 cd31 ct31 : Value}
    {f32 : Addr} {od32 an32 : Option Addr} {sl32 : Array (Option Value)} {oc32 kV32 dc32 pm32 cd32 ct32 : Value}
    {f33 : Addr} {od33 an33 : Option Addr} {sl33 : Array (Option Value)} {oc33 kV33 dc33 pm33 cd33 ct33 : Value}
    {f34 : Addr} {od34 an34 : Option Addr} {sl34 : Array (Option Value)} {oc34 kV34 dc34 pm34 cd34 ct34 : Value}
    {f35 : Addr} {od35 an35 : Option Addr} {sl35 : Array (Option Value)} {oc35 kV35 dc35 pm35 cd35 ct35 : Value}
    {u_FIGURES : Value}
    {u_LOTS : Value}
    {u_PLAYERS : Value}
    {u_POWERS : Value}
    {u_WAYS : Value}
    {at_PLAYERS : Addr} {it_PLAYERS : Array Value} {nt_PLAYERS : Nat} {st_PLAYERS : Array (Option Value)}
    {C_InvalidSign : Addr}
    {D_RoadError : Addr}
    (a0 : PySem.W.nsIn K mainGlobals "is_number" = some (some (.ref f0))) (l0 : K.lookup f0 = some ⟨oc0, od0, .func (PySem.W.fnOf "is_number" "is_number" (defArgs s_is_number) (defBody s_is_number) (defScope s_is_number) .none kV0 dc0 pm0 an0 cd0 ct0), sl0⟩) (c0 : PySem.W.codeIn K cd0 "is_number" = true) (k0 : PySem.W.keepIn K (.ref f0) = true)
    (a1 : PySem.W.nsIn K mainGlobals "are_ways" = some (some (.ref f1))) (l1 : K.lookup f1 = some ⟨oc1, od1, .func (PySem.W.fnOf "are_ways" "are_ways" (defArgs s_are_ways) (defBody s_are_ways) (defScope s_are_ways) .none kV1 dc1 pm1 an1 cd1 ct1), sl1⟩) (c1 : PySem.W.codeIn K cd1 "are_ways" = true) (k1 : PySem.W.keepIn K (.ref f1) = true)
    (a2 : PySem.W.nsIn K mainGlobals "is_kind" = some (some (.ref f2))) (l2 : K.lookup f2 = some ⟨oc2, od2, .func (PySem.W.fnOf "is_kind" "is_kind" (defArgs s_is_kind) (defBody s_is_kind) (defScope s_is_kind) .none kV2 dc2 pm2 an2 cd2 ct2), sl2⟩) (c2 : PySem.W.codeIn K cd2 "is_kind" = true) (k2 : PySem.W.keepIn K (.ref f2) = true)
    (a3 : PySem.W.nsIn K mainGlobals "are_kinds" = some (some (.ref f3))) (l3 : K.lookup f3 = some ⟨oc3, od3, .func (PySem.W.fnOf "are_kinds" "are_kinds" (defArgs s_are_kinds) (defBody s_are_kinds) (defScope s_are_kinds) .none kV3 dc3 pm3 an3 cd3 ct3), sl3⟩) (c3 : PySem.W.codeIn K cd3 "are_kinds" = true) (k3 : PySem.W.keepIn K (.ref f3) = true)
    (a4 : PySem.W.nsIn K mainGlobals "is_stretch_of" = some (some (.ref f4))) (l4 : K.lookup f4 = some ⟨oc4, od4, .func (PySem.W.fnOf "is_stretch_of" "is_stretch_of" (defArgs s_is_stretch_of) (defBody s_is_stretch_of) (defScope s_is_stretch_of) .none kV4 dc4 pm4 an4 cd4 ct4), sl4⟩) (c4 : PySem.W.codeIn K cd4 "is_stretch_of" = true) (k4 : PySem.W.keepIn K (.ref f4) = true)
    (a5 : PySem.W.nsIn K mainGlobals "is_player" = some (some (.ref f5))) (l5 : K.lookup f5 = some ⟨oc5, od5, .func (PySem.W.fnOf "is_player" "is_player" (defArgs s_is_player) (defBody s_is_player) (defScope s_is_player) .none kV5 dc5 pm5 an5 cd5 ct5), sl5⟩) (c5 : PySem.W.codeIn K cd5 "is_player" = true) (k5 : PySem.W.keepIn K (.ref f5) = true)
    (a6 : PySem.W.nsIn K mainGlobals "other_player" = some (some (.ref f6))) (l6 : K.lookup f6 = some ⟨oc6, od6, .func (PySem.W.fnOf "other_player" "other_player" (defArgs s_other_player) (defBody s_other_player) (defScope s_other_player) .none kV6 dc6 pm6 an6 cd6 ct6), sl6⟩) (c6 : PySem.W.codeIn K cd6 "other_player" = true) (k6 : PySem.W.keepIn K (.ref f6) = true)
    (a7 : PySem.W.nsIn K mainGlobals "need_kinds" = some (some (.ref f7))) (l7 : K.lookup f7 = some ⟨oc7, od7, .func (PySem.W.fnOf "need_kinds" "need_kinds" (defArgs s_need_kinds) (defBody s_need_kinds) (defScope s_need_kinds) .none kV7 dc7 pm7 an7 cd7 ct7), sl7⟩) (c7 : PySem.W.codeIn K cd7 "need_kinds" = true) (k7 : PySem.W.keepIn K (.ref f7) = true)
    (a8 : PySem.W.nsIn K mainGlobals "need_stretch" = some (some (.ref f8))) (l8 : K.lookup f8 = some ⟨oc8, od8, .func (PySem.W.fnOf "need_stretch" "need_stretch" (defArgs s_need_stretch) (defBody s_need_stretch) (defScope s_need_stretch) .none kV8 dc8 pm8 an8 cd8 ct8), sl8⟩) (c8 : PySem.W.codeIn K cd8 "need_stretch" = true) (k8 : PySem.W.keepIn K (.ref f8) = true)
    (a9 : PySem.W.nsIn K mainGlobals "need_player" = some (some (.ref f9))) (l9 : K.lookup f9 = some ⟨oc9, od9, .func (PySem.W.fnOf "need_player" "need_player" (defArgs s_need_player) (defBody s_need_player) (defScope s_need_player) .none kV9 dc9 pm9 an9 cd9 ct9), sl9⟩) (c9 : PySem.W.codeIn K cd9 "need_player" = true) (k9 : PySem.W.keepIn K (.ref f9) = true)
    (a10 : PySem.W.nsIn K mainGlobals "figure" = some (some (.ref f10))) (l10 : K.lookup f10 = some ⟨oc10, od10, .func (PySem.W.fnOf "figure" "figure" (defArgs s_figure) (defBody s_figure) (defScope s_figure) .none kV10 dc10 pm10 an10 cd10 ct10), sl10⟩) (c10 : PySem.W.codeIn K cd10 "figure" = true) (k10 : PySem.W.keepIn K (.ref f10) = true)
    (a11 : PySem.W.nsIn K mainGlobals "lot" = some (some (.ref f11))) (l11 : K.lookup f11 = some ⟨oc11, od11, .func (PySem.W.fnOf "lot" "lot" (defArgs s_lot) (defBody s_lot) (defScope s_lot) .none kV11 dc11 pm11 an11 cd11 ct11), sl11⟩) (c11 : PySem.W.codeIn K cd11 "lot" = true) (k11 : PySem.W.keepIn K (.ref f11) = true)
    (a12 : PySem.W.nsIn K mainGlobals "truths_of" = some (some (.ref f12))) (l12 : K.lookup f12 = some ⟨oc12, od12, .func (PySem.W.fnOf "truths_of" "truths_of" (defArgs s_truths_of) (defBody s_truths_of) (defScope s_truths_of) .none kV12 dc12 pm12 an12 cd12 ct12), sl12⟩) (c12 : PySem.W.codeIn K cd12 "truths_of" = true) (k12 : PySem.W.keepIn K (.ref f12) = true)
    (a13 : PySem.W.nsIn K mainGlobals "rises" = some (some (.ref f13))) (l13 : K.lookup f13 = some ⟨oc13, od13, .func (PySem.W.fnOf "rises" "rises" (defArgs s_rises) (defBody s_rises) (defScope s_rises) .none kV13 dc13 pm13 an13 cd13 ct13), sl13⟩) (c13 : PySem.W.codeIn K cd13 "rises" = true) (k13 : PySem.W.keepIn K (.ref f13) = true)
    (a14 : PySem.W.nsIn K mainGlobals "is_sign_of" = some (some (.ref f14))) (l14 : K.lookup f14 = some ⟨oc14, od14, .func (PySem.W.fnOf "is_sign_of" "is_sign_of" (defArgs s_is_sign_of) (defBody s_is_sign_of) (defScope s_is_sign_of) .none kV14 dc14 pm14 an14 cd14 ct14), sl14⟩) (c14 : PySem.W.codeIn K cd14 "is_sign_of" = true) (k14 : PySem.W.keepIn K (.ref f14) = true)
    (a15 : PySem.W.nsIn K mainGlobals "empty_sign" = some (some (.ref f15))) (l15 : K.lookup f15 = some ⟨oc15, od15, .func (PySem.W.fnOf "empty_sign" "empty_sign" (defArgs s_empty_sign) (defBody s_empty_sign) (defScope s_empty_sign) .none kV15 dc15 pm15 an15 cd15 ct15), sl15⟩) (c15 : PySem.W.codeIn K cd15 "empty_sign" = true) (k15 : PySem.W.keepIn K (.ref f15) = true)
    (a16 : PySem.W.nsIn K mainGlobals "forced" = some (some (.ref f16))) (l16 : K.lookup f16 = some ⟨oc16, od16, .func (PySem.W.fnOf "forced" "forced" (defArgs s_forced) (defBody s_forced) (defScope s_forced) .none kV16 dc16 pm16 an16 cd16 ct16), sl16⟩) (c16 : PySem.W.codeIn K cd16 "forced" = true) (k16 : PySem.W.keepIn K (.ref f16) = true)
    (a17 : PySem.W.nsIn K mainGlobals "cell_values" = some (some (.ref f17))) (l17 : K.lookup f17 = some ⟨oc17, od17, .func (PySem.W.fnOf "cell_values" "cell_values" (defArgs s_cell_values) (defBody s_cell_values) (defScope s_cell_values) .none kV17 dc17 pm17 an17 cd17 ct17), sl17⟩) (c17 : PySem.W.codeIn K cd17 "cell_values" = true) (k17 : PySem.W.keepIn K (.ref f17) = true)
    (a18 : PySem.W.nsIn K mainGlobals "joined_of" = some (some (.ref f18))) (l18 : K.lookup f18 = some ⟨oc18, od18, .func (PySem.W.fnOf "joined_of" "joined_of" (defArgs s_joined_of) (defBody s_joined_of) (defScope s_joined_of) .none kV18 dc18 pm18 an18 cd18 ct18), sl18⟩) (c18 : PySem.W.codeIn K cd18 "joined_of" = true) (k18 : PySem.W.keepIn K (.ref f18) = true)
    (a19 : PySem.W.nsIn K mainGlobals "sign_of" = some (some (.ref f19))) (l19 : K.lookup f19 = some ⟨oc19, od19, .func (PySem.W.fnOf "sign_of" "sign_of" (defArgs s_sign_of) (defBody s_sign_of) (defScope s_sign_of) .none kV19 dc19 pm19 an19 cd19 ct19), sl19⟩) (c19 : PySem.W.codeIn K cd19 "sign_of" = true) (k19 : PySem.W.keepIn K (.ref f19) = true)
    (a20 : PySem.W.nsIn K mainGlobals "kinds_at" = some (some (.ref f20))) (l20 : K.lookup f20 = some ⟨oc20, od20, .func (PySem.W.fnOf "kinds_at" "kinds_at" (defArgs s_kinds_at) (defBody s_kinds_at) (defScope s_kinds_at) .none kV20 dc20 pm20 an20 cd20 ct20), sl20⟩) (c20 : PySem.W.codeIn K cd20 "kinds_at" = true) (k20 : PySem.W.keepIn K (.ref f20) = true)
    (a21 : PySem.W.nsIn K mainGlobals "sign" = some (some (.ref f21))) (l21 : K.lookup f21 = some ⟨oc21, od21, .func (PySem.W.fnOf "sign" "sign" (defArgs s_sign) (defBody s_sign) (defScope s_sign) .none kV21 dc21 pm21 an21 cd21 ct21), sl21⟩) (c21 : PySem.W.codeIn K cd21 "sign" = true) (k21 : PySem.W.keepIn K (.ref f21) = true)
    (a22 : PySem.W.nsIn K mainGlobals "is_sign" = some (some (.ref f22))) (l22 : K.lookup f22 = some ⟨oc22, od22, .func (PySem.W.fnOf "is_sign" "is_sign" (defArgs s_is_sign) (defBody s_is_sign) (defScope s_is_sign) .none kV22 dc22 pm22 an22 cd22 ct22), sl22⟩) (c22 : PySem.W.codeIn K cd22 "is_sign" = true) (k22 : PySem.W.keepIn K (.ref f22) = true)
    (a23 : PySem.W.nsIn K mainGlobals "need_sign" = some (some (.ref f23))) (l23 : K.lookup f23 = some ⟨oc23, od23, .func (PySem.W.fnOf "need_sign" "need_sign" (defArgs s_need_sign) (defBody s_need_sign) (defScope s_need_sign) .none kV23 dc23 pm23 an23 cd23 ct23), sl23⟩) (c23 : PySem.W.codeIn K cd23 "need_sign" = true) (k23 : PySem.W.keepIn K (.ref f23) = true)
    (a24 : PySem.W.nsIn K mainGlobals "join" = some (some (.ref f24))) (l24 : K.lookup f24 = some ⟨oc24, od24, .func (PySem.W.fnOf "join" "join" (defArgs s_join) (defBody s_join) (defScope s_join) .none kV24 dc24 pm24 an24 cd24 ct24), sl24⟩) (c24 : PySem.W.codeIn K cd24 "join" = true) (k24 : PySem.W.keepIn K (.ref f24) = true)
    (a25 : PySem.W.nsIn K mainGlobals "_law_sack" = some (some (.ref f25))) (l25 : K.lookup f25 = some ⟨oc25, od25, .func (PySem.W.fnOf "_law_sack" "_law_sack" (defArgs s__law_sack) (defBody s__law_sack) (defScope s__law_sack) .none kV25 dc25 pm25 an25 cd25 ct25), sl25⟩) (c25 : PySem.W.codeIn K cd25 "_law_sack" = true) (k25 : PySem.W.keepIn K (.ref f25) = true)
    (a26 : PySem.W.nsIn K mainGlobals "_law_grip" = some (some (.ref f26))) (l26 : K.lookup f26 = some ⟨oc26, od26, .func (PySem.W.fnOf "_law_grip" "_law_grip" (defArgs s__law_grip) (defBody s__law_grip) (defScope s__law_grip) .none kV26 dc26 pm26 an26 cd26 ct26), sl26⟩) (c26 : PySem.W.codeIn K cd26 "_law_grip" = true) (k26 : PySem.W.keepIn K (.ref f26) = true)
    (a27 : PySem.W.nsIn K mainGlobals "_law_worth" = some (some (.ref f27))) (l27 : K.lookup f27 = some ⟨oc27, od27, .func (PySem.W.fnOf "_law_worth" "_law_worth" (defArgs s__law_worth) (defBody s__law_worth) (defScope s__law_worth) .none kV27 dc27 pm27 an27 cd27 ct27), sl27⟩) (c27 : PySem.W.codeIn K cd27 "_law_worth" = true) (k27 : PySem.W.keepIn K (.ref f27) = true)
    (a28 : PySem.W.nsIn K mainGlobals "_law_figure" = some (some (.ref f28))) (l28 : K.lookup f28 = some ⟨oc28, od28, .func (PySem.W.fnOf "_law_figure" "_law_figure" (defArgs s__law_figure) (defBody s__law_figure) (defScope s__law_figure) .none kV28 dc28 pm28 an28 cd28 ct28), sl28⟩) (c28 : PySem.W.codeIn K cd28 "_law_figure" = true) (k28 : PySem.W.keepIn K (.ref f28) = true)
    (a29 : PySem.W.nsIn K mainGlobals "_law_join" = some (some (.ref f29))) (l29 : K.lookup f29 = some ⟨oc29, od29, .func (PySem.W.fnOf "_law_join" "_law_join" (defArgs s__law_join) (defBody s__law_join) (defScope s__law_join) .none kV29 dc29 pm29 an29 cd29 ct29), sl29⟩) (c29 : PySem.W.codeIn K cd29 "_law_join" = true) (k29 : PySem.W.keepIn K (.ref f29) = true)
    (a30 : PySem.W.nsIn K mainGlobals "_law_int" = some (some (.ref f30))) (l30 : K.lookup f30 = some ⟨oc30, od30, .func (PySem.W.fnOf "_law_int" "_law_int" (defArgs s__law_int) (defBody s__law_int) (defScope s__law_int) .none kV30 dc30 pm30 an30 cd30 ct30), sl30⟩) (c30 : PySem.W.codeIn K cd30 "_law_int" = true) (k30 : PySem.W.keepIn K (.ref f30) = true)
    (a31 : PySem.W.nsIn K mainGlobals "_law_both" = some (some (.ref f31))) (l31 : K.lookup f31 = some ⟨oc31, od31, .func (PySem.W.fnOf "_law_both" "_law_both" (defArgs s__law_both) (defBody s__law_both) (defScope s__law_both) .none kV31 dc31 pm31 an31 cd31 ct31), sl31⟩) (c31 : PySem.W.codeIn K cd31 "_law_both" = true) (k31 : PySem.W.keepIn K (.ref f31) = true)
    (a32 : PySem.W.nsIn K mainGlobals "_law_rising" = some (some (.ref f32))) (l32 : K.lookup f32 = some ⟨oc32, od32, .func (PySem.W.fnOf "_law_rising" "_law_rising" (defArgs s__law_rising) (defBody s__law_rising) (defScope s__law_rising) .none kV32 dc32 pm32 an32 cd32 ct32), sl32⟩) (c32 : PySem.W.codeIn K cd32 "_law_rising" = true) (k32 : PySem.W.keepIn K (.ref f32) = true)
    (a33 : PySem.W.nsIn K mainGlobals "_law_is_sign" = some (some (.ref f33))) (l33 : K.lookup f33 = some ⟨oc33, od33, .func (PySem.W.fnOf "_law_is_sign" "_law_is_sign" (defArgs s__law_is_sign) (defBody s__law_is_sign) (defScope s__law_is_sign) .none kV33 dc33 pm33 an33 cd33 ct33), sl33⟩) (c33 : PySem.W.codeIn K cd33 "_law_is_sign" = true) (k33 : PySem.W.keepIn K (.ref f33) = true)
    (a34 : PySem.W.nsIn K mainGlobals "_law_refused" = some (some (.ref f34))) (l34 : K.lookup f34 = some ⟨oc34, od34, .func (PySem.W.fnOf "_law_refused" "_law_refused" (defArgs s__law_refused) (defBody s__law_refused) (defScope s__law_refused) .none kV34 dc34 pm34 an34 cd34 ct34), sl34⟩) (c34 : PySem.W.codeIn K cd34 "_law_refused" = true) (k34 : PySem.W.keepIn K (.ref f34) = true)
    (a35 : PySem.W.nsIn K mainGlobals "law" = some (some (.ref f35))) (l35 : K.lookup f35 = some ⟨oc35, od35, .func (PySem.W.fnOf "law" "law" (defArgs s_law) (defBody s_law) (defScope s_law) .none kV35 dc35 pm35 an35 cd35 ct35), sl35⟩) (c35 : PySem.W.codeIn K cd35 "law" = true) (k35 : PySem.W.keepIn K (.ref f35) = true)
    (z_all : PySem.W.nsIn K mainGlobals "all" = some none)
    (z_bool : PySem.W.nsIn K mainGlobals "bool" = some none)
    (z_int : PySem.W.nsIn K mainGlobals "int" = some none)
    (z_isinstance : PySem.W.nsIn K mainGlobals "isinstance" = some none)
    (z_len : PySem.W.nsIn K mainGlobals "len" = some none)
    (z_list : PySem.W.nsIn K mainGlobals "list" = some none)
    (z_range : PySem.W.nsIn K mainGlobals "range" = some none)
    (z_str : PySem.W.nsIn K mainGlobals "str" = some none)
    (z_sum : PySem.W.nsIn K mainGlobals "sum" = some none)
    (z_tuple : PySem.W.nsIn K mainGlobals "tuple" = some none)
    (z_zip : PySem.W.nsIn K mainGlobals "zip" = some none)
    (n_FIGURES : PySem.W.nsIn K mainGlobals "FIGURES" = some (some u_FIGURES))
    (v_FIGURES : KVal K K_FIGURES u_FIGURES)
    (n_LOTS : PySem.W.nsIn K mainGlobals "LOTS" = some (some u_LOTS))
    (v_LOTS : KVal K K_LOTS u_LOTS)
    (n_PLAYERS : PySem.W.nsIn K mainGlobals "PLAYERS" = some (some u_PLAYERS))
    (v_PLAYERS : KVal K K_PLAYERS u_PLAYERS)
    (n_POWERS : PySem.W.nsIn K mainGlobals "POWERS" = some (some u_POWERS))
    (v_POWERS : KVal K K_POWERS u_POWERS)
    (n_WAYS : PySem.W.nsIn K mainGlobals "WAYS" = some (some u_WAYS))
    (v_WAYS : KVal K K_WAYS u_WAYS)
    (nn_PLAYERS : PySem.W.nsIn K mainGlobals "PLAYERS" = some (some (.ref at_PLAYERS))) (lt_PLAYERS : K.lookup at_PLAYERS = some ⟨.type "tuple", none, .seq it_PLAYERS nt_PLAYERS, st_PLAYERS⟩) (zt_PLAYERS : it_PLAYERS.size ≤ 1000) (vt_PLAYERS : Vals (Y_PLAYERS.map V.str) it_PLAYERS.toList)
    (g_InvalidSign : PySem.W.nsIn K mainGlobals "InvalidSign" = some (some (.ref C_InvalidSign))) (x_InvalidSign : PySem.W.excIn K C_InvalidSign [.type "ValueError", .type "Exception", .type "BaseException", .type "object"] "ValueError.__new__" = true) (kp_InvalidSign : PySem.W.keepIn K (.ref C_InvalidSign) = true) (sb_InvalidSign : PySem.W.subIn K (.ref C_InvalidSign) (.type "BaseException") = some true) (ty_InvalidSign : PySem.W.typeIn K (.ref C_InvalidSign) = some (.type "type"))
    (gd_RoadError : PySem.W.nsIn K mainGlobals "RoadError" = some (some (.ref D_RoadError)))
    (sbd_RoadError : PySem.W.subIn K (.ref D_RoadError) (.type "BaseException") = some true) (tyd_RoadError : PySem.W.typeIn K (.ref D_RoadError) = some (.type "type"))
    (ic_InvalidSign : PySem.W.isClsIn K C_InvalidSign = true)
    (ic_RoadError : PySem.W.isClsIn K D_RoadError = true)
    (su_InvalidSign_InvalidSign : PySem.W.subIn K (.ref C_InvalidSign) (.ref C_InvalidSign) = some true)
    (su_InvalidSign_RoadError : PySem.W.subIn K (.ref C_InvalidSign) (.ref D_RoadError) = some true)
    : ∃ fd : FuncData, (∀ (s : Shared) (v : Value), BindsTo s fd ⟨[v], []⟩ [("script", v)]) ∧ ∀ base : Heap, K.In base → base.Ns mainGlobals mg → FnOk l.prog w K mg base (L2.CX l.prog w) 7 fa fd ["script"] (spLaw K) := by
  have e := hfa.symm.trans (PySem.W.mg_of X G a35)
  cases e
  refine ⟨PySem.W.fnOf "law" "law" (defArgs s_law) (defBody s_law) (defScope s_law) .none kV35 dc35 pm35 an35 cd35 ct35, fun s v => .of_eq rfl, fun base X2 G2 => ?_⟩
  have hsub : XS ⟨l.prog, w, K, mg, []⟩ sub_t := by
    intro p hp
    simp only [sub_t, List.mem_cons, List.not_mem_nil, or_false] at hp
    rcases hp with rfl | rfl
    · exact ⟨_, _, PySem.W.mg_of X G g_InvalidSign, PySem.W.mg_of X G g_InvalidSign, exm_is sb_InvalidSign ic_InvalidSign ty_InvalidSign su_InvalidSign_InvalidSign⟩
    · exact ⟨_, _, PySem.W.mg_of X G g_InvalidSign, PySem.W.mg_of X G gd_RoadError, exm_is sbd_RoadError ic_RoadError tyd_RoadError su_InvalidSign_RoadError⟩
  have B : Bn l.prog w K mg [] := { all := PySem.W.mg_none_of X G z_all, bool := PySem.W.mg_none_of X G z_bool, int := PySem.W.mg_none_of X G z_int, isinstance := PySem.W.mg_none_of X G z_isinstance, len := PySem.W.mg_none_of X G z_len, list := PySem.W.mg_none_of X G z_list, range := PySem.W.mg_none_of X G z_range, str := PySem.W.mg_none_of X G z_str, sum := PySem.W.mg_none_of X G z_sum, tuple := PySem.W.mg_none_of X G z_tuple, zip := PySem.W.mg_none_of X G z_zip, k_FIGURES := kd_of X G n_FIGURES v_FIGURES, k_LOTS := kd_of X G n_LOTS v_LOTS, k_PLAYERS := kd_of X G n_PLAYERS v_PLAYERS, k_POWERS := kd_of X G n_POWERS v_POWERS, k_WAYS := kd_of X G n_WAYS v_WAYS, t_PLAYERS := kt_of X G nn_PLAYERS lt_PLAYERS zt_PLAYERS vt_PLAYERS, x_InvalidSign := ⟨C_InvalidSign, PySem.W.mg_of X G g_InvalidSign, x_InvalidSign, kp_InvalidSign, sb_InvalidSign, ty_InvalidSign⟩, c_InvalidSign := ⟨C_InvalidSign, PySem.W.mg_of X G g_InvalidSign⟩, c_RoadError := ⟨D_RoadError, PySem.W.mg_of X G gd_RoadError⟩, sub := hsub }
  have F0 := fun_mk (st := s_is_number) l0 c0 k0
  have b0 := F0.binds (ps := p_is_number) fun _ _ _ _ _ _ us hl => match us, hl with | [_, _, _], _ => rfl
  have H_is_number : ∀ k, 1 ≤ k → Kn ⟨l.prog, w, K, mg, []⟩ base k "is_number" (sp0 ⟨l.prog, w, K, mg, []⟩ 3 F_is_number) := fun k hk => kn_of X G (ok_is_number (k := 0) B  F0) a0 k0 b0 hk
  have F1 := fun_mk (st := s_are_ways) l1 c1 k1
  have b1 := F1.binds (ps := p_are_ways) fun _ _ _ _ _ _ us hl => match us, hl with | [_], _ => rfl
  have H_are_ways : ∀ k, 1 ≤ k → Kn ⟨l.prog, w, K, mg, []⟩ base k "are_ways" (sp0 ⟨l.prog, w, K, mg, []⟩ 1 F_are_ways) := fun k hk => kn_of X G (ok_are_ways (k := 0) B  F1) a1 k1 b1 hk
  have F2 := fun_mk (st := s_is_kind) l2 c2 k2
  have b2 := F2.binds (ps := p_is_kind) fun _ _ _ _ _ _ us hl => match us, hl with | [_], _ => rfl
  have H_is_kind : ∀ k, 2 ≤ k → Kn ⟨l.prog, w, K, mg, []⟩ base k "is_kind" (sp0 ⟨l.prog, w, K, mg, []⟩ 1 F_is_kind) := fun k hk => kn_of X G (ok_is_kind (k := 1) B (H_are_ways 1 (by decide)) F2) a2 k2 b2 hk
  have F3 := fun_mk (st := s_are_kinds) l3 c3 k3
  have b3 := F3.binds (ps := p_are_kinds) fun _ _ _ _ _ _ us hl => match us, hl with | [_], _ => rfl
  have H_are_kinds : ∀ k, 3 ≤ k → Kn ⟨l.prog, w, K, mg, []⟩ base k "are_kinds" (sp0 ⟨l.prog, w, K, mg, []⟩ 1 F_are_kinds) := fun k hk => kn_of X G (ok_are_kinds (k := 2) B (H_is_kind 2 (by decide)) F3) a3 k3 b3 hk
  have F4 := fun_mk (st := s_is_stretch_of) l4 c4 k4
  have b4 := F4.binds (ps := p_is_stretch_of) fun _ _ _ _ _ _ us hl => match us, hl with | [_, _, _], _ => rfl
  have H_is_stretch_of : ∀ k, 2 ≤ k → Kn ⟨l.prog, w, K, mg, []⟩ base k "is_stretch_of" (sp0 ⟨l.prog, w, K, mg, []⟩ 3 F_is_stretch_of) := fun k hk => kn_of X G (ok_is_stretch_of (k := 1) B (H_is_number 1 (by decide)) F4) a4 k4 b4 hk
  have F5 := fun_mk (st := s_is_player) l5 c5 k5
  have b5 := F5.binds (ps := p_is_player) fun _ _ _ _ _ _ us hl => match us, hl with | [_], _ => rfl
  have H_is_player : ∀ k, 1 ≤ k → Kn ⟨l.prog, w, K, mg, []⟩ base k "is_player" (sp0 ⟨l.prog, w, K, mg, []⟩ 1 F_is_player) := fun k hk => kn_of X G (ok_is_player (k := 0) B  F5) a5 k5 b5 hk
  have F6 := fun_mk (st := s_other_player) l6 c6 k6
  have b6 := F6.binds (ps := p_other_player) fun _ _ _ _ _ _ us hl => match us, hl with | [_], _ => rfl
  have H_other_player : ∀ k, 1 ≤ k → Kn ⟨l.prog, w, K, mg, []⟩ base k "other_player" (sp0 ⟨l.prog, w, K, mg, []⟩ 1 F_other_player) := fun k hk => kn_of X G (ok_other_player (k := 0) B  F6) a6 k6 b6 hk
  have F7 := fun_mk (st := s_need_kinds) l7 c7 k7
  have b7 := F7.binds (ps := p_need_kinds) fun _ _ _ _ _ _ us hl => match us, hl with | [_], _ => rfl
  have H_need_kinds : ∀ k, 4 ≤ k → Kn ⟨l.prog, w, K, mg, []⟩ base k "need_kinds" (sp0 ⟨l.prog, w, K, mg, []⟩ 1 F_need_kinds) := fun k hk => kn_of X G (ok_need_kinds (k := 3) B (H_are_kinds 3 (by decide)) F7) a7 k7 b7 hk
  have F8 := fun_mk (st := s_need_stretch) l8 c8 k8
  have b8 := F8.binds (ps := p_need_stretch) fun _ _ _ _ _ _ us hl => match us, hl with | [_, _, _], _ => rfl
  have H_need_stretch : ∀ k, 3 ≤ k → Kn ⟨l.prog, w, K, mg, []⟩ base k "need_stretch" (sp0 ⟨l.prog, w, K, mg, []⟩ 3 F_need_stretch) := fun k hk => kn_of X G (ok_need_stretch (k := 2) B (H_is_stretch_of 2 (by decide)) F8) a8 k8 b8 hk
  have F9 := fun_mk (st := s_need_player) l9 c9 k9
  have b9 := F9.binds (ps := p_need_player) fun _ _ _ _ _ _ us hl => match us, hl with | [_], _ => rfl
  have H_need_player : ∀ k, 2 ≤ k → Kn ⟨l.prog, w, K, mg, []⟩ base k "need_player" (sp0 ⟨l.prog, w, K, mg, []⟩ 1 F_need_player) := fun k hk => kn_of X G (ok_need_player (k := 1) B (H_is_player 1 (by decide)) F9) a9 k9 b9 hk
  have F10 := fun_mk (st := s_figure) l10 c10 k10
  have b10 := F10.binds (ps := p_figure) fun _ _ _ _ _ _ us hl => match us, hl with | [_, _], _ => rfl
  have H_figure : ∀ k, 1 ≤ k → Kn ⟨l.prog, w, K, mg, []⟩ base k "figure" (sp0 ⟨l.prog, w, K, mg, []⟩ 2 F_figure) := fun k hk => kn_of X G (ok_figure (k := 0) B  F10) a10 k10 b10 hk
  have F11 := fun_mk (st := s_lot) l11 c11 k11
  have b11 := F11.binds (ps := p_lot) fun _ _ _ _ _ _ us hl => match us, hl with | [_], _ => rfl
  have H_lot : ∀ k, 1 ≤ k → Kn ⟨l.prog, w, K, mg, []⟩ base k "lot" (sp0 ⟨l.prog, w, K, mg, []⟩ 1 F_lot) := fun k hk => kn_of X G (ok_lot (k := 0) B  F11) a11 k11 b11 hk
  have F12 := fun_mk (st := s_truths_of) l12 c12 k12
  have b12 := F12.binds (ps := p_truths_of) fun _ _ _ _ _ _ us hl => match us, hl with | [_], _ => rfl
  have H_truths_of : ∀ k, 1 ≤ k → Kn ⟨l.prog, w, K, mg, []⟩ base k "truths_of" (sp0 ⟨l.prog, w, K, mg, []⟩ 1 F_truths_of) := fun k hk => kn_of X G (ok_truths_of (k := 0) B  F12) a12 k12 b12 hk
  have F13 := fun_mk (st := s_rises) l13 c13 k13
  have b13 := F13.binds (ps := p_rises) fun _ _ _ _ _ _ us hl => match us, hl with | [_], _ => rfl
  have H_rises : ∀ k, 2 ≤ k → Kn ⟨l.prog, w, K, mg, []⟩ base k "rises" (sp0 ⟨l.prog, w, K, mg, []⟩ 1 F_rises) := fun k hk => kn_of X G (ok_rises (k := 1) B (H_figure 1 (by decide)) F13) a13 k13 b13 hk
  have F14 := fun_mk (st := s_is_sign_of) l14 c14 k14
  have b14 := F14.binds (ps := p_is_sign_of) fun _ _ _ _ _ _ us hl => match us, hl with | [_], _ => rfl
  have H_is_sign_of : ∀ k, 3 ≤ k → Kn ⟨l.prog, w, K, mg, []⟩ base k "is_sign_of" (sp0 ⟨l.prog, w, K, mg, []⟩ 1 F_is_sign_of) := fun k hk => kn_of X G (ok_is_sign_of (k := 2) B (H_is_number 2 (by decide)) (H_rises 2 (by decide)) F14) a14 k14 b14 hk
  have F15 := fun_mk (st := s_empty_sign) l15 c15 k15
  have b15 := F15.binds (ps := p_empty_sign) fun _ _ _ _ _ _ us hl => match us, hl with | [], _ => rfl
  have H_empty_sign : ∀ k, 2 ≤ k → Kn ⟨l.prog, w, K, mg, []⟩ base k "empty_sign" (sp0 ⟨l.prog, w, K, mg, []⟩ 0 F_empty_sign) := fun k hk => kn_of X G (ok_empty_sign (k := 1) B (H_truths_of 1 (by decide)) F15) a15 k15 b15 hk
  have F16 := fun_mk (st := s_forced) l16 c16 k16
  have b16 := F16.binds (ps := p_forced) fun _ _ _ _ _ _ us hl => match us, hl with | [_, _, _, _], _ => rfl
  have H_forced : ∀ k, 1 ≤ k → Kn ⟨l.prog, w, K, mg, []⟩ base k "forced" (sp0 ⟨l.prog, w, K, mg, []⟩ 4 F_forced) := fun k hk => kn_of X G (ok_forced (k := 0) B  F16) a16 k16 b16 hk
  have F17 := fun_mk (st := s_cell_values) l17 c17 k17
  have b17 := F17.binds (ps := p_cell_values) fun _ _ _ _ _ _ us hl => match us, hl with | [_, _, _], _ => rfl
  have H_cell_values : ∀ k, 2 ≤ k → Kn ⟨l.prog, w, K, mg, []⟩ base k "cell_values" (sp0 ⟨l.prog, w, K, mg, []⟩ 3 F_cell_values) := fun k hk => kn_of X G (ok_cell_values (k := 1) B (H_other_player 1 (by decide)) (H_forced 1 (by decide)) F17) a17 k17 b17 hk
  have F18 := fun_mk (st := s_joined_of) l18 c18 k18
  have b18 := F18.binds (ps := p_joined_of) fun _ _ _ _ _ _ us hl => match us, hl with | [_, _], _ => rfl
  have H_joined_of : ∀ k, 2 ≤ k → Kn ⟨l.prog, w, K, mg, []⟩ base k "joined_of" (sp0 ⟨l.prog, w, K, mg, []⟩ 2 F_joined_of) := fun k hk => kn_of X G (ok_joined_of (k := 1) B (H_truths_of 1 (by decide)) (H_figure 1 (by decide)) (H_lot 1 (by decide)) F18) a18 k18 b18 hk
  have F19 := fun_mk (st := s_sign_of) l19 c19 k19
  have b19 := F19.binds (ps := p_sign_of) fun _ _ _ _ _ _ us hl => match us, hl with | [_, _], _ => rfl
  have H_sign_of : ∀ k, 3 ≤ k → Kn ⟨l.prog, w, K, mg, []⟩ base k "sign_of" (sp0 ⟨l.prog, w, K, mg, []⟩ 2 F_sign_of) := fun k hk => kn_of X G (ok_sign_of (k := 2) B (H_empty_sign 2 (by decide)) (H_joined_of 2 (by decide)) F19) a19 k19 b19 hk
  have F20 := fun_mk (st := s_kinds_at) l20 c20 k20
  have b20 := F20.binds (ps := p_kinds_at) fun _ _ _ _ _ _ us hl => match us, hl with | [_, _], _ => rfl
  have H_kinds_at : ∀ k, 1 ≤ k → Kn ⟨l.prog, w, K, mg, []⟩ base k "kinds_at" (sp0 ⟨l.prog, w, K, mg, []⟩ 2 F_kinds_at) := fun k hk => kn_of X G (ok_kinds_at (k := 0) B  F20) a20 k20 b20 hk
  have F21 := fun_mk (st := s_sign) l21 c21 k21
  have b21 := F21.binds (ps := p_sign) fun _ _ _ _ _ _ us hl => match us, hl with | [_, _, _], _ => rfl
  have H_sign : ∀ k, 5 ≤ k → Kn ⟨l.prog, w, K, mg, []⟩ base k "sign" (sp0 ⟨l.prog, w, K, mg, []⟩ 3 F_sign) := fun k hk => kn_of X G (ok_sign (k := 4) B (H_need_kinds 4 (by decide)) (H_need_stretch 4 (by decide)) (H_need_player 4 (by decide)) (H_sign_of 4 (by decide)) (H_kinds_at 4 (by decide)) F21) a21 k21 b21 hk
  have F22 := fun_mk (st := s_is_sign) l22 c22 k22
  have b22 := F22.binds (ps := p_is_sign) fun _ _ _ _ _ _ us hl => match us, hl with | [_], _ => rfl
  have H_is_sign : ∀ k, 4 ≤ k → Kn ⟨l.prog, w, K, mg, []⟩ base k "is_sign" (sp0 ⟨l.prog, w, K, mg, []⟩ 1 F_is_sign) := fun k hk => kn_of X G (ok_is_sign (k := 3) B (H_is_sign_of 3 (by decide)) F22) a22 k22 b22 hk
  have F23 := fun_mk (st := s_need_sign) l23 c23 k23
  have b23 := F23.binds (ps := p_need_sign) fun _ _ _ _ _ _ us hl => match us, hl with | [_], _ => rfl
  have H_need_sign : ∀ k, 4 ≤ k → Kn ⟨l.prog, w, K, mg, []⟩ base k "need_sign" (sp0 ⟨l.prog, w, K, mg, []⟩ 1 F_need_sign) := fun k hk => kn_of X G (ok_need_sign (k := 3) B (H_is_sign_of 3 (by decide)) F23) a23 k23 b23 hk
  have F24 := fun_mk (st := s_join) l24 c24 k24
  have b24 := F24.binds (ps := p_join) fun _ _ _ _ _ _ us hl => match us, hl with | [_, _], _ => rfl
  have H_join : ∀ k, 5 ≤ k → Kn ⟨l.prog, w, K, mg, []⟩ base k "join" (sp0 ⟨l.prog, w, K, mg, []⟩ 2 F_join) := fun k hk => kn_of X G (ok_join (k := 4) B (H_need_sign 4 (by decide)) (H_joined_of 4 (by decide)) F24) a24 k24 b24 hk
  have F25 := fun_mk (st := s__law_sack) l25 c25 k25
  have b25 := F25.binds (ps := p__law_sack) fun _ _ _ _ _ _ us hl => match us, hl with | [_, _], _ => rfl
  have H__law_sack : ∀ k, 1 ≤ k → Kn ⟨l.prog, w, K, mg, []⟩ base k "_law_sack" (spN ⟨l.prog, w, K, mg, []⟩ 2 F__law_sack) := fun k hk => kn_of X G (ok__law_sack (k := 0) B  F25) a25 k25 b25 hk
  have F26 := fun_mk (st := s__law_grip) l26 c26 k26
  have b26 := F26.binds (ps := p__law_grip) fun _ _ _ _ _ _ us hl => match us, hl with | [_, _], _ => rfl
  have H__law_grip : ∀ k, 1 ≤ k → Kn ⟨l.prog, w, K, mg, []⟩ base k "_law_grip" (sp1 ⟨l.prog, w, K, mg, []⟩ 2 0 F__law_grip) := fun k hk => kn_of X G (ok__law_grip (k := 0) B  F26) a26 k26 b26 hk
  have F27 := fun_mk (st := s__law_worth) l27 c27 k27
  have b27 := F27.binds (ps := p__law_worth) fun _ _ _ _ _ _ us hl => match us, hl with | [_], _ => rfl
  have H__law_worth : ∀ k, 1 ≤ k → Kn ⟨l.prog, w, K, mg, []⟩ base k "_law_worth" (sp0 ⟨l.prog, w, K, mg, []⟩ 1 F__law_worth) := fun k hk => kn_of X G (ok__law_worth (k := 0) B  F27) a27 k27 b27 hk
  have F28 := fun_mk (st := s__law_figure) l28 c28 k28
  have b28 := F28.binds (ps := p__law_figure) fun _ _ _ _ _ _ us hl => match us, hl with | [_, _], _ => rfl
  have H__law_figure : ∀ k, 2 ≤ k → Kn ⟨l.prog, w, K, mg, []⟩ base k "_law_figure" (sp0 ⟨l.prog, w, K, mg, []⟩ 2 F__law_figure) := fun k hk => kn_of X G (ok__law_figure (k := 1) B (H__law_worth 1 (by decide)) F28) a28 k28 b28 hk
  have F29 := fun_mk (st := s__law_join) l29 c29 k29
  have b29 := F29.binds (ps := p__law_join) fun _ _ _ _ _ _ us hl => match us, hl with | [_, _], _ => rfl
  have H__law_join : ∀ k, 3 ≤ k → Kn ⟨l.prog, w, K, mg, []⟩ base k "_law_join" (sp0 ⟨l.prog, w, K, mg, []⟩ 2 F__law_join) := fun k hk => kn_of X G (ok__law_join (k := 2) B (H__law_figure 2 (by decide)) (H__law_worth 2 (by decide)) F29) a29 k29 b29 hk
  have F30 := fun_mk (st := s__law_int) l30 c30 k30
  have b30 := F30.binds (ps := p__law_int) fun _ _ _ _ _ _ us hl => match us, hl with | [_, _, _], _ => rfl
  have H__law_int : ∀ k, 1 ≤ k → Kn ⟨l.prog, w, K, mg, []⟩ base k "_law_int" (sp0 ⟨l.prog, w, K, mg, []⟩ 3 F__law_int) := fun k hk => kn_of X G (ok__law_int (k := 0) B  F30) a30 k30 b30 hk
  have F31 := fun_mk (st := s__law_both) l31 c31 k31
  have b31 := F31.binds (ps := p__law_both) fun _ _ _ _ _ _ us hl => match us, hl with | [_, _], _ => rfl
  have H__law_both : ∀ k, 1 ≤ k → Kn ⟨l.prog, w, K, mg, []⟩ base k "_law_both" (sp0 ⟨l.prog, w, K, mg, []⟩ 2 F__law_both) := fun k hk => kn_of X G (ok__law_both (k := 0) B  F31) a31 k31 b31 hk
  have F32 := fun_mk (st := s__law_rising) l32 c32 k32
  have b32 := F32.binds (ps := p__law_rising) fun _ _ _ _ _ _ us hl => match us, hl with | [_], _ => rfl
  have H__law_rising : ∀ k, 2 ≤ k → Kn ⟨l.prog, w, K, mg, []⟩ base k "_law_rising" (sp1 ⟨l.prog, w, K, mg, []⟩ 1 0 F__law_rising) := fun k hk => kn_of X G (ok__law_rising (k := 1) B (H__law_grip 1 (by decide)) (H__law_both 1 (by decide)) (H__law_worth 1 (by decide)) F32) a32 k32 b32 hk
  have F33 := fun_mk (st := s__law_is_sign) l33 c33 k33
  have b33 := F33.binds (ps := p__law_is_sign) fun _ _ _ _ _ _ us hl => match us, hl with | [_], _ => rfl
  have H__law_is_sign : ∀ k, 3 ≤ k → Kn ⟨l.prog, w, K, mg, []⟩ base k "_law_is_sign" (sp0 ⟨l.prog, w, K, mg, []⟩ 1 F__law_is_sign) := fun k hk => kn_of X G (ok__law_is_sign (k := 2) B (H__law_int 2 (by decide)) (H__law_figure 2 (by decide)) F33) a33 k33 b33 hk
  have F34 := fun_mk (st := s__law_refused) l34 c34 k34
  have b34 := F34.binds (ps := p__law_refused) fun _ _ _ _ _ _ us hl => match us, hl with | [_, _], _ => rfl
  have H__law_refused : ∀ k, 6 ≤ k → Kn ⟨l.prog, w, K, mg, []⟩ base k "_law_refused" (sp0 ⟨l.prog, w, K, mg, []⟩ 2 F__law_refused) := fun k hk => kn_of X G (ok__law_refused (k := 5) B (H_join 5 (by decide)) F34) a34 k34 b34 hk
  have F35 := fun_mk (st := s_law) l35 c35 k35
  exact law_imp (ok_law (k := 6) B (H__law_sack 6 (by decide)) (H__law_rising 6 (by decide)) (H_join 6 (by decide)) (H__law_join 6 (by decide)) (H__law_grip 6 (by decide)) (H_is_sign 6 (by decide)) (H__law_is_sign 6 (by decide)) (H__law_refused 6 (by decide)) (H_sign 6 (by decide)) F35) law_true
end Q
open PySem PySem.W PyProof.Rows
set_option maxHeartbeats 0 in
theorem PySem.Challenge.cw_stoneroads_k03_signs_put_together_holds : PySem.Challenge.rw_stoneroads_k03_signs_put_together.Holds := by
  w_on; o_law; k_head; (case hw => w_witness2)
  k_fill
  refine L2.walk_of (l := PySem.Challenge.rw_stoneroads_k03_signs_put_together) (n := 63) (k := 7) (x := "script") (CX := fun w => L2.CX PySem.Challenge.rw_stoneroads_k03_signs_put_together.prog w) (sp := fun w => Mir.spLaw _) rfl (by decide) rfl ⟨rfl, by decide, by decide⟩ (fun w h Y => PySem.W.kIn_of Y) ?F (fun _ _ a ns hl hO hS => ⟨a, ns, rfl, hl, Mir.sc_of hO hS, fun _ => rfl⟩) (fun _ _ _ _ _ h => Mir.cx_none h)
  case F =>
    intro w mg fa h KX G hmg
    refine' Q.all_mk KX G hmg ?a0 ?l0 ?c0 ?k0 ?a1 ?l1 ?c1 ?k1 ?a2 ?l2 ?c2 ?k2 ?a3 ?l3 ?c3 ?k3 ?a4 ?l4 ?c4 ?k4 ?a5 ?l5 ?c5 ?k5 ?a6 ?l6 ?c6 ?k6 ?a7 ?l7 ?c7 ?k7 ?a8 ?l8 ?c8 ?k8 ?a9 ?l9 ?c9 ?k9 ?a10 ?l10 ?c10 ?k10 ?a11 ?l11 ?c11 ?k11 ?a12 ?l12 ?c12 ?k12 ?a13 ?l13 ?c13 ?k13 ?a14 ?l14 ?c14 ?k14 ?a15 ?l15 ?c15 ?k15 ?a16 ?l16 ?c16 ?k16 ?a17 ?l17 ?c17 ?k17 ?a18 ?l18 ?c18 ?k18 ?a19 ?l19 ?c19 ?k19 ?a20 ?l20 ?c20 ?k20 ?a21 ?l21 ?c21 ?k21 ?a22 ?l22 ?c22 ?k22 ?a23 ?l23 ?c23 ?k23 ?a24 ?l24 ?c24 ?k24 ?a25 ?l25 ?c25 ?k25 ?a26 ?l26 ?c26 ?k26 ?a27 ?l27 ?c27 ?k27 ?a28 ?l28 ?c28 ?k28 ?a29 ?l29 ?c29 ?k29 ?a30 ?l30 ?c30 ?k30 ?a31 ?l31 ?c31 ?k31 ?a32 ?l32 ?c32 ?k32 ?a33 ?l33 ?c33 ?k33 ?a34 ?l34 ?c34 ?k34 ?a35 ?l35 ?c35 ?k35 ?z_all ?z_bool ?z_int ?z_isinstance ?z_len ?z_list ?z_range ?z_str ?z_sum ?z_tuple ?z_zip ?n_FIGURES ?v_FIGURES ?n_LOTS ?v_LOTS ?n_PLAYERS ?v_PLAYERS ?n_POWERS ?v_POWERS ?n_WAYS ?v_WAYS ?nn_PLAYERS ?lt_PLAYERS ?zt_PLAYERS ?vt_PLAYERS ?g_InvalidSign ?x_InvalidSign ?kp_InvalidSign ?sb_InvalidSign ?ty_InvalidSign ?gd_RoadError ?sbd_RoadError ?tyd_RoadError ?ic_InvalidSign ?ic_RoadError ?su_InvalidSign_InvalidSign ?su_InvalidSign_RoadError
    (case a0 => k_is)
    (case l0 => k_is)
    (case c0 => k_is)
    (case k0 => k_is)
    (case a1 => k_is)
    (case l1 => k_is)
    (case c1 => k_is)
    (case k1 => k_is)
    (case a2 => k_is)
    (case l2 => k_is)
    (case c2 => k_is)
    (case k2 => k_is)
    (case a3 => k_is)
    (case l3 => k_is)
    (case c3 => k_is)
    (case k3 => k_is)
    (case a4 => k_is)
    (case l4 => k_is)
    (case c4 => k_is)
    (case k4 => k_is)
    (case a5 => k_is)
    (case l5 => k_is)
    (case c5 => k_is)
    (case k5 => k_is)
    (case a6 => k_is)
    (case l6 => k_is)
    (case c6 => k_is)
    (case k6 => k_is)
    (case a7 => k_is)
    (case l7 => k_is)
    (case c7 => k_is)
    (case k7 => k_is)
    (case a8 => k_is)
    (case l8 => k_is)
    (case c8 => k_is)
    (case k8 => k_is)
    (case a9 => k_is)
    (case l9 => k_is)
    (case c9 => k_is)
    (case k9 => k_is)
    (case a10 => k_is)
    (case l10 => k_is)
    (case c10 => k_is)
    (case k10 => k_is)
    (case a11 => k_is)
    (case l11 => k_is)
    (case c11 => k_is)
    (case k11 => k_is)
    (case a12 => k_is)
    (case l12 => k_is)
    (case c12 => k_is)
    (case k12 => k_is)
    (case a13 => k_is)
    (case l13 => k_is)
    (case c13 => k_is)
    (case k13 => k_is)
    (case a14 => k_is)
    (case l14 => k_is)
    (case c14 => k_is)
    (case k14 => k_is)
    (case a15 => k_is)
    (case l15 => k_is)
    (case c15 => k_is)
    (case k15 => k_is)
    (case a16 => k_is)
    (case l16 => k_is)
    (case c16 => k_is)
    (case k16 => k_is)
    (case a17 => k_is)
    (case l17 => k_is)
    (case c17 => k_is)
    (case k17 => k_is)
    (case a18 => k_is)
    (case l18 => k_is)
    (case c18 => k_is)
    (case k18 => k_is)
    (case a19 => k_is)
    (case l19 => k_is)
    (case c19 => k_is)
    (case k19 => k_is)
    (case a20 => k_is)
    (case l20 => k_is)
    (case c20 => k_is)
    (case k20 => k_is)
    (case a21 => k_is)
    (case l21 => k_is)
    (case c21 => k_is)
    (case k21 => k_is)
    (case a22 => k_is)
    (case l22 => k_is)
    (case c22 => k_is)
    (case k22 => k_is)
    (case a23 => k_is)
    (case l23 => k_is)
    (case c23 => k_is)
    (case k23 => k_is)
    (case a24 => k_is)
    (case l24 => k_is)
    (case c24 => k_is)
    (case k24 => k_is)
    (case a25 => k_is)
    (case l25 => k_is)
    (case c25 => k_is)
    (case k25 => k_is)
    (case a26 => k_is)
    (case l26 => k_is)
    (case c26 => k_is)
    (case k26 => k_is)
    (case a27 => k_is)
    (case l27 => k_is)
    (case c27 => k_is)
    (case k27 => k_is)
    (case a28 => k_is)
    (case l28 => k_is)
    (case c28 => k_is)
    (case k28 => k_is)
    (case a29 => k_is)
    (case l29 => k_is)
    (case c29 => k_is)
    (case k29 => k_is)
    (case a30 => k_is)
    (case l30 => k_is)
    (case c30 => k_is)
    (case k30 => k_is)
    (case a31 => k_is)
    (case l31 => k_is)
    (case c31 => k_is)
    (case k31 => k_is)
    (case a32 => k_is)
    (case l32 => k_is)
    (case c32 => k_is)
    (case k32 => k_is)
    (case a33 => k_is)
    (case l33 => k_is)
    (case c33 => k_is)
    (case k33 => k_is)
    (case a34 => k_is)
    (case l34 => k_is)
    (case c34 => k_is)
    (case k34 => k_is)
    (case a35 => k_is)
    (case l35 => k_is)
    (case c35 => k_is)
    (case k35 => k_is)
    (case z_all => k_is)
    (case z_bool => k_is)
    (case z_int => k_is)
    (case z_isinstance => k_is)
    (case z_len => k_is)
    (case z_list => k_is)
    (case z_range => k_is)
    (case z_str => k_is)
    (case z_sum => k_is)
    (case z_tuple => k_is)
    (case z_zip => k_is)
    (case n_FIGURES => k_is)
    (case v_FIGURES => exact (.tup (by k_is) (by decide) (.cons (.int _ _) (.cons (.int _ _) (.cons (.int _ _) (.cons (.int _ _) (.cons (.int _ _) (.cons (.int _ _) (.cons (.int _ _) (.cons (.int _ _) (.cons (.int _ _) (.cons (.int _ _) (.cons (.int _ _) (.cons (.int _ _) (.cons (.int _ _) (.cons (.int _ _) (.cons (.int _ _) (.cons (.int _ _) .nil))))))))))))))))))
    (case n_LOTS => k_is)
    (case v_LOTS => exact (.tup (by k_is) (by decide) (.cons (.int _ _) (.cons (.int _ _) (.cons (.int _ _) (.cons (.int _ _) (.cons (.int _ _) (.cons (.int _ _) (.cons (.int _ _) (.cons (.int _ _) (.cons (.int _ _) (.cons (.int _ _) (.cons (.int _ _) (.cons (.int _ _) (.cons (.int _ _) (.cons (.int _ _) (.cons (.int _ _) (.cons (.int _ _) .nil))))))))))))))))))
    (case n_PLAYERS => k_is)
    (case v_PLAYERS => exact (.tup (by k_is) (by decide) (.cons (.str _ _) (.cons (.str _ _) .nil))))
    (case n_POWERS => k_is)
    (case v_POWERS => exact (.tup (by k_is) (by decide) (.cons (.int _ _) (.cons (.int _ _) (.cons (.int _ _) (.cons (.int _ _) .nil))))))
    (case n_WAYS => k_is)
    (case v_WAYS => exact (.tup (by k_is) (by decide) (.cons (.str _ _) (.cons (.str _ _) (.cons (.str _ _) .nil)))))
    (case nn_PLAYERS => k_is)
    (case lt_PLAYERS => k_is)
    (case zt_PLAYERS => decide)
    (case vt_PLAYERS => exact (.cons ⟨_, rfl⟩ (.cons ⟨_, rfl⟩ .nil)))
    (case g_InvalidSign => k_is)
    (case x_InvalidSign => k_exc)
    (case kp_InvalidSign => k_is)
    (case sb_InvalidSign => k_is)
    (case ty_InvalidSign => k_is)
    (case gd_RoadError => k_is)
    (case sbd_RoadError => k_is)
    (case tyd_RoadError => k_is)
    (case ic_InvalidSign => k_is)
    (case ic_RoadError => k_is)
    (case su_InvalidSign_InvalidSign => k_is)
    (case su_InvalidSign_RoadError => k_is)
