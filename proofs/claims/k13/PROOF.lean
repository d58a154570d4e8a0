import PyProof.Rows.All
import Wide.All
import OpenK.AllK
import Wide.FinOn
import PyProof.EqAt
import PyProof.EqKinds
import PyProof.TupleCall
import Open.SpecLaws
import HandS.ForMost
import HandS.ForExc
import HandS.TryMany
import HandS.Lambda
import HandS.Zip
import HandS.Conv
import KE.KDictKeyed
import KE.KDictPairs
import KE.KDictCopyH
import KE.KDictDisplayH
import HandS.TupAny
import HandS.TupMul
import HandS.TupLe
import HandS.Deep
import HandS.IsInst
import HandS.Flow
import HandS.Wide
import HandS.Strs
import HandS.Text
import KE.GoesZip
import KE.GoesMore
import HandS.RaiseMore
import HandS.MapJoin
import HandS.More
import HandS.Ends
import PySem.Challenge.RW_stoneroads_k13_whole_texts_there_and_bac
set_option Elab.async false
set_option linter.all false
set_option maxRecDepth 100000
set_option maxHeartbeats 4000000
/-! Mir1: data, stores, what they are in a heap; outcomes; how outcomes are put together. -/
namespace Mir
open PySem PySem.Spec PyProof.Rows L2

abbrev St := L2.St
/-- data without any object that is changed -/
inductive D where
  | non | bl (b : Bool) | int (i : Int) | str (x : Str) | tup (xs : List D) | lst (xs : List D) | dic (t : Bool) (ks : List NestedKey) (vs : List D) | scr (ns : List Int)
  deriving Inhabited
/-- what a name holds: data, or a reference to a cell of the store -/
inductive U where
  | d (x : D) | c (i : Nat)
  deriving Inhabited
/-- an object that may be changed -/
inductive Cell where
  | lst (xs : List D)
  | dic (t : Bool) (ks : List NestedKey) (vs : List D)
  | ins (C : Str) (fs : List (Str × D))
  deriving Inhabited
abbrev Sto := List Cell
abbrev Env := List (Option U)
/-- an exception: its class, its attributes -/
structure Exn where
  cls : Str
  fs : Option (List (Str × D)) := none
inductive O (α : Type) where
  | ok (a : α) (S : Sto) | ex (e : Exn) (S : Sto) | un

namespace O
@[simp] def bind {α β : Type} (o : O α) (f : α → Sto → O β) : O β := match o with
  | .ok a S => f a S | .ex e S => .ex e S | .un => .un
end O
abbrev ME := Env → Sto → O U
abbrev MT := Env → Sto → O Bool
abbrev MA := Env → Sto → O (List U)
/-- outcomes of statements -/
inductive SO where
  | nx (ρ : Env) (S : Sto) | rt (u : U) (S : Sto) | bk (ρ : Env) (S : Sto) | ct (ρ : Env) (S : Sto) | ex (e : Exn) (ρ : Env) (S : Sto) | un
abbrev MS := Env → Sto → SO

/-- what stays the same through a law -/
structure Gc where
  P : Program
  w : World
  K : PySem.W.Frag
  mg : Str → Option Value
  T : List (Addr × Str)

/-! ### data in a heap; e: the cells' addresses -/
def kN : Key → NestedKey
  | .inl i => .num i
  | .inr x => .text x
mutual
/-- a value as a key -/
inductive RN (G : Gc) (H : Hp) : NestedKey → V → Prop
  | none : RN G H .none .non
  | bl (b : Bool) : RN G H (.num (if b = true then 1 else 0)) (.bl b)
  | num (i : Int) : RN G H (.num i) (.int i)
  | text (x : Str) : RN G H (.text x) (.str x)
  | tup {a : Addr} {xs : List V} {ks : List NestedKey} : SqT G.K H a xs → RNs G H ks xs → RN G H (.tup ks) (.ref a)
inductive RNs (G : Gc) (H : Hp) : List NestedKey → List V → Prop
  | nil : RNs G H [] []
  | cons {k : NestedKey} {v : V} {ks : List NestedKey} {vs : List V} : RN G H k v → RNs G H ks vs → RNs G H (k :: ks) (v :: vs)
end
/-- a dict whose keys are tuples: its keys, where they stand, its values -/
def dicN (P : Program) (w : World) (a : Addr) (xs : List (NestedKey × Addr × V)) : HO := .ext fun h => xs.length ≤ sizeLine ∧ (a == sysModules) = false ∧ ∃ us : List (NestedKey × Addr × Value),
  Paired (fun (p : NestedKey × Addr × V) (q : NestedKey × Addr × Value) => p.1 = q.1 ∧ p.2.1 = q.2.1 ∧ RelV p.2.2 q.2.2) xs us ∧
    ∃ o es ep, h.get? a = some o ∧ o.ExactDict ∧ o.data = .dict es ep ∧ es.toList = us.map (entryOfKey (nestedKind P w)) ∧ (us.map (·.1)).Nodup
/-- a dict: its keys, its values -/
inductive RD (G : Gc) (H : Hp) (a : Addr) : Bool → List NestedKey → List V → HO → Prop
  | k (ks : List Key) (xs : List V) : ks.length = xs.length → RD G H a false (ks.map kN) xs (.dK (ks.zip xs))
  | n (ts : List (NestedKey × Addr × V)) : (∀ t ∈ ts, RN G H t.1 (.ref t.2.1) ∧ t.1.depth ≤ 8) → RD G H a true (ts.map (·.1)) (ts.map (·.2.2)) (dicN G.P G.w a ts)
/-- the script: a list that nobody changes -/
def Sc (K : PySem.W.Frag) (H : Hp) (a : Addr) (ns : List Int) : Prop :=
  (∃ o, H a = some (.frz o (.lst (ns.map V.int)))) ∨
    ∃ (o : Obj) (its : Array Value) (n : Nat), K.lookup a = some o ∧ o.cls = .type "list" ∧ o.dict = none ∧ o.data = .seq its n ∧ its.size ≤ sizeLine ∧ Vals (ns.map V.int) its.toList
theorem Sc.sq {K : PySem.W.Frag} {H : Hp} {a : Addr} {ns : List Int} (h : Sc K H a ns) : SqL K H a (ns.map V.int) := by
  rcases h with h | h
  · exact .inl (.inr h)
  · exact .inr h
mutual
inductive RV (G : Gc) (e : List Addr) (H : Hp) : D → V → Prop
  | non : RV G e H .non .non
  | bl (b : Bool) : RV G e H (.bl b) (.bl b)
  | int (i : Int) : RV G e H (.int i) (.int i)
  | str (x : Str) : RV G e H (.str x) (.str x)
  | tup {a : Addr} {xs : List V} {ds : List D} : SqT G.K H a xs → RVs G e H ds xs → RV G e H (.tup ds) (.ref a)
  | lst {a : Addr} {xs : List V} {ds : List D} : H a = some (.lst xs) → a ∉ e → RVs G e H ds xs → RV G e H (.lst ds) (.ref a)
  | scr {a : Addr} {ns : List Int} : Sc G.K H a ns → RV G e H (.scr ns) (.ref a)
  | dic {a : Addr} {o : HO} {t : Bool} {ks : List NestedKey} {xs : List V} {ds : List D} : H a = some o → a ∉ e → RD G H a t ks xs o → RVs G e H ds xs → RV G e H (.dic t ks ds) (.ref a)
inductive RVs (G : Gc) (e : List Addr) (H : Hp) : List D → List V → Prop
  | nil : RVs G e H [] []
  | cons {d : D} {v : V} {ds : List D} {vs : List V} : RV G e H d v → RVs G e H ds vs → RVs G e H (d :: ds) (v :: vs)
end
/-- the same, the outermost object may be a cell -/
inductive RT (G : Gc) (e : List Addr) (H : Hp) : D → V → Prop
  | of {d : D} {v : V} : RV G e H d v → RT G e H d v
  | lst {a : Addr} {xs : List V} {ds : List D} : H a = some (.lst xs) → RVs G e H ds xs → RT G e H (.lst ds) (.ref a)
  | dic {a : Addr} {o : HO} {t : Bool} {ks : List NestedKey} {xs : List V} {ds : List D} : H a = some o → RD G H a t ks xs o → RVs G e H ds xs → RT G e H (.dic t ks ds) (.ref a)
/-- what a name holds -/
inductive RU (G : Gc) (e m : List Addr) (H : Hp) : U → V → Prop
  | d {x : D} {v : V} : RV G e H x v → RU G e m H (.d x) v
  | c {i : Nat} {a : Addr} : m[i]? = some a → RU G e m H (.c i) (.ref a)
inductive RUs (G : Gc) (e m : List Addr) (H : Hp) : List U → List V → Prop
  | nil : RUs G e m H [] []
  | cons {d : U} {v : V} {ds : List U} {vs : List V} : RU G e m H d v → RUs G e m H ds vs → RUs G e m H (d :: ds) (v :: vs)
/-- the fields of an instance -/
inductive RF (G : Gc) (e : List Addr) (H : Hp) : List (Str × D) → List (Str × V) → Prop
  | nil : RF G e H [] []
  | cons {f : Str} {d : D} {v : V} {ds : List (Str × D)} {vs : List (Str × V)} : RV G e H d v → RF G e H ds vs → RF G e H ((f, d) :: ds) ((f, v) :: vs)
inductive RC (G : Gc) (e : List Addr) (H : Hp) (a : Addr) : Cell → HO → Prop
  | lst {xs : List V} {ds : List D} : RVs G e H ds xs → RC G e H a (.lst ds) (.lst xs)
  | dic {o : HO} {t : Bool} {ks : List NestedKey} {xs : List V} {ds : List D} : RD G H a t ks xs o → RVs G e H ds xs → RC G e H a (.dic t ks ds) o
  | ins {x : Str} {C dx : Addr} {fs : List (Str × D)} {gs : List (Str × V)} : G.mg x = some (.ref C) → H dx = some (.own a) → RF G e H fs gs → RC G e H a (.ins x fs) (.ins C dx gs)
/-- a store in a heap -/
structure RS (G : Gc) (e m : List Addr) (H : Hp) (S : Sto) : Prop where
  len : m.length = S.length
  nd : m.Nodup
  ins : ∀ b ∈ m, b ∈ e
  at' : ∀ (i : Nat) (a : Addr) (c : Cell), m[i]? = some a → S[i]? = some c → ∃ o, H a = some o ∧ RC G e H a c o
inductive RE (G : Gc) (e m : List Addr) (H : Hp) : Env → St → Prop
  | nil : RE G e m H [] []
  | em {o : Option V} {ρ : Env} {σ : St} : RE G e m H ρ σ → RE G e m H (none :: ρ) (o :: σ)
  | cns {u : U} {v : V} {ρ : Env} {σ : St} : RU G e m H u v → RE G e m H ρ σ → RE G e m H (some u :: ρ) (some v :: σ)
/-- there is an object that is no table of code objects -/
def Nt (H : Hp) (b : Addr) : Prop := ∃ o, H b = some o ∧ ∀ ps, o ≠ .tbl ps
structure Rp (G : Gc) (x m : List Addr) (H : Hp) (ρ : Env) (S : Sto) (σ : St) : Prop where
  env : RE G (x ++ m) m H ρ σ
  sto : RS G (x ++ m) m H S
  ex : ∀ b ∈ x, Nt H b
  tab : LamX.Tabs G.T H

/-- from one heap to another: but for the cells all stays -/
structure Ext (G : Gc) (m : List Addr) (H : Hp) (m' : List Addr) (H' : Hp) : Prop where
  keep : ∀ b o, H b = some o → b ∉ m → (∀ ps, o ≠ .tbl ps) → H' b = some o
  tups : ∀ b xs, H b = some (.tup xs) → H' b = some (.tup xs)
  frzs : ∀ b o u, H b = some (.frz o u) → H' b = some (.frz o u)
  owns : ∀ b a, H b = some (.own a) → H' b = some (.own a)
  live : ∀ b, Nt H b → Nt H' b
  pre : ∃ new, m' = m ++ new ∧ ∀ b ∈ new, ¬ Nt H b
  tab : LamX.Tabs G.T H → LamX.Tabs G.T H'

theorem Ext.refl {G : Gc} {m : List Addr} {H : Hp} : Ext G m H m H :=
  ⟨fun _ _ h _ _ => h, fun _ _ h => h, fun _ _ _ h => h, fun _ _ h => h, fun _ h => h, ⟨[], by simp, fun _ h => by cases h⟩, fun h => h⟩
theorem Ext.trans {G : Gc} {m m1 m2 : List Addr} {H H1 H2 : Hp} (a : Ext G m H m1 H1) (b : Ext G m1 H1 m2 H2) : Ext G m H m2 H2 := by
  obtain ⟨n1, e1, f1⟩ := a.pre
  obtain ⟨n2, e2, f2⟩ := b.pre
  refine ⟨fun c o h hc ht => b.keep c o (a.keep c o h hc ht) ?_ ht, fun c xs h => b.tups c xs (a.tups c xs h), fun c o u h => b.frzs c o u (a.frzs c o u h), fun c x h => b.owns c x (a.owns c x h), fun c h => b.live c (a.live c h), ⟨n1 ++ n2, by rw [e2, e1, List.append_assoc], fun c hc => ?_⟩, fun h => b.tab (a.tab h)⟩
  · rw [e1]
    intro hm
    rcases List.mem_append.mp hm with hm | hm
    · exact hc hm
    · exact f1 c hm ⟨o, h, ht⟩
  · rcases List.mem_append.mp hc with hc | hc
    · exact f1 c hc
    · exact fun q => f2 c hc (a.live c q)

/-! ### what stays -/
section
variable {G : Gc} {e e' x m m' : List Addr} {H H' : Hp}
/-- data stay where all that is no cell stays -/
structure Keep (G : Gc) (e : List Addr) (H : Hp) (e' : List Addr) (H' : Hp) : Prop where
  tup : ∀ a xs, SqT G.K H a xs → SqT G.K H' a xs
  lst : ∀ a ns, Sc G.K H a ns → Sc G.K H' a ns
  lsk : ∀ a xs, H a = some (.lst xs) → a ∉ e → H' a = some (.lst xs) ∧ a ∉ e'
  dic : ∀ a o t ks xs, H a = some o → a ∉ e → RD G H a t ks xs o → H' a = some o ∧ a ∉ e' ∧ RD G H' a t ks xs o
mutual
theorem RN.ext (k : ∀ a xs, SqT G.K H a xs → SqT G.K H' a xs) : ∀ {d : NestedKey} {v : V}, RN G H d v → RN G H' d v
  | _, _, .none => .none
  | _, _, .bl b => .bl b
  | _, _, .num i => .num i
  | _, _, .text x => .text x
  | _, _, .tup h r => .tup (k _ _ h) (RNs.ext k r)
theorem RNs.ext (k : ∀ a xs, SqT G.K H a xs → SqT G.K H' a xs) : ∀ {ds : List NestedKey} {vs : List V}, RNs G H ds vs → RNs G H' ds vs
  | _, _, .nil => .nil
  | _, _, .cons r t => .cons (RN.ext k r) (RNs.ext k t)
end
theorem RD.ext (k : ∀ a xs, SqT G.K H a xs → SqT G.K H' a xs) {a : Addr} {t : Bool} {ks : List NestedKey} {xs : List V} {o : HO} (r : RD G H a t ks xs o) : RD G H' a t ks xs o := by
  cases r with
  | k kk xs h => exact .k kk xs h
  | n ts h => exact .n ts fun t ht => ⟨(h t ht).1.ext k, (h t ht).2⟩
mutual
theorem RV.keep (k : Keep G e H e' H') : ∀ {d : D} {v : V}, RV G e H d v → RV G e' H' d v
  | _, _, .non => .non
  | _, _, .bl b => .bl b
  | _, _, .int i => .int i
  | _, _, .str x => .str x
  | _, _, .tup h r => .tup (k.tup _ _ h) (RVs.keep k r)
  | _, _, .lst h n r => .lst (k.lsk _ _ h n).1 (k.lsk _ _ h n).2 (RVs.keep k r)
  | _, _, .scr h => .scr (k.lst _ _ h)
  | _, _, .dic h n rd r => .dic (k.dic _ _ _ _ _ h n rd).1 (k.dic _ _ _ _ _ h n rd).2.1 (k.dic _ _ _ _ _ h n rd).2.2 (RVs.keep k r)
theorem RVs.keep (k : Keep G e H e' H') : ∀ {ds : List D} {vs : List V}, RVs G e H ds vs → RVs G e' H' ds vs
  | _, _, .nil => .nil
  | _, _, .cons r t => .cons (RV.keep k r) (RVs.keep k t)
end
theorem Rd.ext {a : Addr} {u : HO} (E : Ext G m H m' H') (h : Rd H a u) (hm : a ∉ m) (ht : ∀ ps, u ≠ .tbl ps) : Rd H' a u := by
  rcases h with h | ⟨o, h⟩
  · exact .inl (E.keep _ _ h hm ht)
  · exact .inr ⟨o, E.frzs _ _ _ h⟩
theorem rd_some {a : Addr} {u : HO} (h : Rd H a u) : ∃ o, H a = some o := by
  rcases h with h | ⟨o, h⟩ <;> exact ⟨_, h⟩
theorem RD.notbl {a : Addr} {t : Bool} {ks : List NestedKey} {xs : List V} {o : HO} (h : RD G H a t ks xs o) : ∀ ps, o ≠ .tbl ps := by
  cases h <;> intro ps q <;> cases q
theorem SqT.ext {a : Addr} {xs : List V} (E : Ext G m H m' H') (h : SqT G.K H a xs) : SqT G.K H' a xs := by
  rcases h with (h | ⟨o, h⟩) | h
  · exact .inl (.inl (E.tups _ _ h))
  · exact .inl (.inr ⟨o, E.frzs _ _ _ h⟩)
  · exact .inr h
theorem Ext.notin {a : Addr} {o : HO} (E : Ext G m H m' H') (h : H a = some o) (ht : ∀ ps, o ≠ .tbl ps) (hm : a ∉ x ++ m) : a ∉ x ++ m' := by
  obtain ⟨n, e1, f⟩ := E.pre
  rw [e1]
  intro q
  rcases List.mem_append.mp q with q | q
  · exact hm (List.mem_append_left _ q)
  · rcases List.mem_append.mp q with q | q
    · exact hm (List.mem_append_right _ q)
    · exact f a q ⟨o, h, ht⟩
theorem Sc.ext {a : Addr} {ns : List Int} (E : Ext G m H m' H') (h : Sc G.K H a ns) : Sc G.K H' a ns := by
  rcases h with ⟨o, h⟩ | h
  · exact .inl ⟨o, E.frzs _ _ _ h⟩
  · exact .inr h
theorem Ext.kp (E : Ext G m H m' H') : Keep G (x ++ m) H (x ++ m') H' where
  tup := fun a xs h => SqT.ext E h
  lst := fun a ns h => Sc.ext E h
  lsk := fun a xs h n => ⟨E.keep _ _ h (fun z => n (List.mem_append_right _ z)) (fun ps z => by cases z), E.notin h (fun ps z => by cases z) n⟩
  dic := fun a o t ks xs h n r => by
    exact ⟨E.keep _ _ h (fun z => n (List.mem_append_right _ z)) r.notbl, E.notin h r.notbl n, r.ext fun a xs h => SqT.ext E h⟩
theorem RU.ext (E : Ext G m H m' H') {u : U} {v : V} (r : RU G (x ++ m) m H u v) : RU G (x ++ m') m' H' u v := by
  cases r with
  | d r => exact .d (r.keep E.kp)
  | c h =>
    obtain ⟨n, e1, f⟩ := E.pre
    exact .c (by rw [e1, List.getElem?_append_left (List.getElem?_eq_some_iff.mp h).1]; exact h)
theorem RUs.ext (E : Ext G m H m' H') : ∀ {us : List U} {vs : List V}, RUs G (x ++ m) m H us vs → RUs G (x ++ m') m' H' us vs
  | _, _, .nil => .nil
  | _, _, .cons r t => .cons (RU.ext E r) (RUs.ext E t)
theorem RE.ext (E : Ext G m H m' H') : ∀ {ρ : Env} {σ : St}, RE G (x ++ m) m H ρ σ → RE G (x ++ m') m' H' ρ σ
  | _, _, .nil => .nil
  | _, _, .em t => .em (RE.ext E t)
  | _, _, .cns r t => .cns (RU.ext E r) (RE.ext E t)
theorem Rp.ext {ρ : Env} {S S' : Sto} {σ : St} (p : Rp G x m H ρ S σ) (E : Ext G m H m' H') (r : RS G (x ++ m') m' H' S') : Rp G x m' H' ρ S' σ :=
  ⟨p.env.ext E, r, fun b hb => E.live b (p.ex b hb), E.tab p.tab⟩
end

/-! ### what is wanted behind an outcome -/
section
variable {G : Gc} {W : WX} {x m m1 : List Addr} {σ : St} {H H1 : Hp}
/-- an exception: its class, its attributes -/
def RX (G : Gc) (e : List Addr) (H : Hp) (ex : Exn) (cls : Value) (d : Option Addr) : Prop :=
  ∃ C, cls = .ref C ∧ G.mg ex.cls = some (.ref C) ∧ match ex.fs with
    | none => True
    | some fs => ∃ a gs, d = some a ∧ H a = some (.xd gs) ∧ RF G e H fs gs
def Post {α : Type} (G : Gc) (W : WX) (x m : List Addr) (σ : St) (H : Hp) (o : O α) (Q : α → Sto → List Addr → Hp → Prop) : Prop := match o with
  | .ok a S' => ∀ m' H', Ext G m H m' H' → RS G (x ++ m') m' H' S' → Q a S' m' H'
  | .ex e S' => ∀ m' H' cls d, Ext G m H m' H' → RS G (x ++ m') m' H' S' → RX G (x ++ m') H' e cls d → W cls d σ H'
  | .un => False
theorem Post.shift {α : Type} {o : O α} {Q : α → Sto → List Addr → Hp → Prop} (E : Ext G m H m1 H1) (h : Post G W x m σ H o Q) : Post G W x m1 σ H1 o Q := by
  cases o with
  | ok a S => exact fun m' H' e r => h m' H' (E.trans e) r
  | ex e S => exact fun m' H' cls d e r rx => h m' H' cls d (E.trans e) r rx
  | un => exact h
theorem Post.bind {α β : Type} {o : O α} {f : α → Sto → O β} {Q : β → Sto → List Addr → Hp → Prop} (h : Post G W x m σ H (o.bind f) Q) :
    Post G W x m σ H o fun a S1 m1 H1 => Ext G m H m1 H1 ∧ RS G (x ++ m1) m1 H1 S1 ∧ Post G W x m1 σ H1 (f a S1) Q := by
  cases o with
  | ok a S => exact fun m' H' e r => ⟨e, r, Post.shift e h⟩
  | ex e S => exact h
  | un => exact h
theorem Post.mono {α : Type} {o : O α} {Q Q' : α → Sto → List Addr → Hp → Prop} (h : Post G W x m σ H o Q) (q : ∀ a S m' H', Ext G m H m' H' → RS G (x ++ m') m' H' S → Q a S m' H' → Q' a S m' H') : Post G W x m σ H o Q' := by
  cases o with
  | ok a S => exact fun m' H' e r => q _ _ _ _ e r (h m' H' e r)
  | ex e S => exact h
  | un => exact h
end
/-- the readings -/
def tE (G : Gc) (W : WX) (f : ME) : TE := fun σ H Q => ∃ x m ρ S, Rp G x m H ρ S σ ∧ Post G W x m σ H (f ρ S) fun u _ m' H' => ∀ v, RU G (x ++ m') m' H' u v → Q v H'
def tT (G : Gc) (W : WX) (f : MT) : TT := fun σ H Q => ∃ x m ρ S, Rp G x m H ρ S σ ∧ Post G W x m σ H (f ρ S) fun b _ _ H' => Q b H'
def tA (G : Gc) (W : WX) (f : MA) : TA := fun σ H Q => ∃ x m ρ S, Rp G x m H ρ S σ ∧ Post G W x m σ H (f ρ S) fun us _ m' H' => ∀ vs, RUs G (x ++ m') m' H' us vs → Q vs H'
/-- behind a statement -/
def PostS (G : Gc) (W : WX) (x m : List Addr) (H : Hp) (o : SO) (Dn : Ends) : Prop := match o with
  | .nx ρ' S' => ∀ m' H' σ', Ext G m H m' H' → Rp G x m' H' ρ' S' σ' → Dn.nx σ' H'
  | .rt u S' => ∀ m' H' v, Ext G m H m' H' → RS G (x ++ m') m' H' S' → RU G (x ++ m') m' H' u v → Dn.rt v H'
  | .bk ρ' S' => ∀ m' H' σ', Ext G m H m' H' → Rp G x m' H' ρ' S' σ' → Dn.bk σ' H'
  | .ct ρ' S' => ∀ m' H' σ', Ext G m H m' H' → Rp G x m' H' ρ' S' σ' → Dn.ct σ' H'
  | .ex e ρ' S' => ∀ m' H' σ' cls d, Ext G m H m' H' → Rp G x m' H' ρ' S' σ' → RX G (x ++ m') H' e cls d → W cls d σ' H'
  | .un => False
def tS (G : Gc) (W : WX) (f : MS) : TS := fun Dn σ H => ∃ x m ρ S, Rp G x m H ρ S σ ∧ PostS G W x m H (f ρ S) Dn
theorem PostS.shift {G : Gc} {W : WX} {x m m1 : List Addr} {H H1 : Hp} {o : SO} {Dn : Ends} (E : Ext G m H m1 H1) (h : PostS G W x m H o Dn) : PostS G W x m1 H1 o Dn := by
  cases o with
  | nx ρ S => exact fun m' H' σ' e p => h m' H' σ' (E.trans e) p
  | rt u S => exact fun m' H' v e p r => h m' H' v (E.trans e) p r
  | bk ρ S => exact fun m' H' σ' e p => h m' H' σ' (E.trans e) p
  | ct ρ S => exact fun m' H' σ' e p => h m' H' σ' (E.trans e) p
  | ex e ρ S => exact fun m' H' σ' cls d E' p r => h m' H' σ' cls d (E.trans E') p r
  | un => exact h

/-! ### a weaker reading -/
theorem pe_mono {X : Cx} {e : Expr} {t t' : TE} (h : PE X e t) (q : ∀ σ H Q, t' σ H Q → t σ H Q) : PE X e t' := ⟨fun pins s σ H Q I w => h.run pins s σ H Q I (q σ H Q w)⟩
theorem pt_mono {X : Cx} {e : Expr} {t t' : TT} (h : PT X e t) (q : ∀ σ H Q, t' σ H Q → t σ H Q) : PT X e t' := ⟨fun pins s σ H Q I w => h.run pins s σ H Q I (q σ H Q w)⟩
theorem pa_mono {X : Cx} {e : List Expr} {t t' : TA} (h : PA X e t) (q : ∀ σ H Q, t' σ H Q → t σ H Q) : PA X e t' := ⟨fun pos pins s σ H Q I w => h.run pos pins s σ H Q I (q σ H Q w)⟩
theorem ps_mono {X : Cx} {e : Stmt} {t t' : TS} (h : PS X e t) (q : ∀ Dn σ H, t' Dn σ H → t Dn σ H) : PS X e t' := ⟨fun pins s σ H Dn I w => h.run pins s σ H Dn I (q Dn σ H w)⟩
theorem pss_mono {X : Cx} {e : List Stmt} {t t' : TS} (h : PSs X e t) (q : ∀ Dn σ H, t' Dn σ H → t Dn σ H) : PSs X e t' := ⟨fun pins s σ H Dn I w => h.run pins s σ H Dn I (q Dn σ H w)⟩
end Mir

/-! Mir2: expressions: names, constants, displays, operators, comparisons, truth. -/
namespace Mir
open PySem PySem.Spec PyProof.Rows L2

abbrev gOf (X : Cx) (T : List (Addr × Str)) : Gc := ⟨X.prog, X.w, X.K, X.mg, T⟩

/-! ### reading cells -/
def rd (S : Sto) : U → Option D
  | .d x => some x
  | .c i => match S[i]? with
    | some (.lst xs) => some (.lst xs)
    | some (.dic t ks vs) => some (.dic t ks vs)
    | _ => none
def rds (S : Sto) : List U → Option (List D)
  | [] => some []
  | u :: us => match rd S u, rds S us with
    | some d, some ds => some (d :: ds)
    | _, _ => none
def pures : List U → Option (List D)
  | [] => some []
  | .d x :: us => match pures us with
    | some ds => some (x :: ds)
    | none => none
  | .c _ :: _ => none
def purs : U → Option D
  | .d x => some x
  | .c _ => none
inductive RTs (G : Gc) (e : List Addr) (H : Hp) : List D → List V → Prop
  | nil : RTs G e H [] []
  | cons {d : D} {v : V} {ds : List D} {vs : List V} : RT G e H d v → RTs G e H ds vs → RTs G e H (d :: ds) (v :: vs)
section
variable {G : Gc} {e m : List Addr} {H : Hp} {S : Sto}
theorem RU.rt {u : U} {v : V} {d : D} (r : RU G e m H u v) (s : RS G e m H S) (h : rd S u = some d) : RT G e H d v := by
  cases r with
  | d r => simp only [rd, Option.some.injEq] at h; subst h; exact .of r
  | @c i a ha =>
    unfold rd at h
    split at h
    · rename_i x hx
      cases hx
    · rename_i j hx
      cases hx
      split at h
      · rename_i xs hs
        cases h
        obtain ⟨o, h1, h2⟩ := s.at' i a _ ha hs
        cases h2 with
        | lst q => exact .lst h1 q
      · rename_i t ks vs hs
        cases h
        obtain ⟨o, h1, h2⟩ := s.at' i a _ ha hs
        cases h2 with
        | dic q1 q2 => exact .dic h1 q1 q2
      · cases h
theorem RUs.rts (s : RS G e m H S) : ∀ {us : List U} {vs : List V} {ds : List D}, RUs G e m H us vs → rds S us = some ds → RTs G e H ds vs
  | _, _, _, .nil, h => by simp only [rds, Option.some.injEq] at h; subst h; exact .nil
  | _, _, _, .cons r t, h => by
    unfold rds at h
    split at h
    · rename_i d ds h1 h2
      cases h
      exact .cons (r.rt s h1) (RUs.rts s t h2)
    · cases h
theorem RUs.pure : ∀ {us : List U} {vs : List V} {ds : List D}, RUs G e m H us vs → pures us = some ds → RVs G e H ds vs
  | _, _, _, .nil, h => by simp only [pures, Option.some.injEq] at h; subst h; exact .nil
  | _, _, _, .cons (.d r) t, h => by
    unfold pures at h
    split at h
    · rename_i ds h1
      cases h
      exact .cons r (RUs.pure t h1)
    · cases h
  | _, _, _, .cons (.c _) t, h => by simp [pures] at h
theorem RVs.length : ∀ {ds : List D} {vs : List V}, RVs G e H ds vs → ds.length = vs.length
  | _, _, .nil => rfl
  | _, _, .cons _ t => by simp [RVs.length t]
theorem RUs.length : ∀ {ds : List U} {vs : List V}, RUs G e m H ds vs → ds.length = vs.length
  | _, _, .nil => rfl
  | _, _, .cons _ t => by simp [RUs.length t]
theorem pures_len : ∀ {us : List U} {ds : List D}, pures us = some ds → ds.length = us.length
  | [], _, h => by simp [pures] at h; subst h; rfl
  | .d x :: us, _, h => by
    unfold pures at h
    split at h
    · rename_i ds h1
      cases h
      simp [pures_len h1]
    · cases h
  | .c _ :: us, _, h => by simp [pures] at h
end
section
variable {G : Gc} {e m : List Addr} {H : Hp}
theorem RVs.get : ∀ {ds : List D} {vs : List V} {i : Nat} {d : D}, RVs G e H ds vs → ds[i]? = some d → ∃ v, vs[i]? = some v ∧ RV G e H d v
  | _, _, _, _, .nil, h => by simp at h
  | _, _, 0, _, .cons r _, h => by simp at h; subst h; exact ⟨_, rfl, r⟩
  | _, _, i + 1, _, .cons _ t, h => by
    obtain ⟨v, h1, h2⟩ := RVs.get (i := i) t (by simpa using h)
    exact ⟨v, by simpa using h1, h2⟩
theorem RVs.len : ∀ {ds : List D} {vs : List V}, RVs G e H ds vs → ds.length = vs.length
  | _, _, .nil => rfl
  | _, _, .cons _ t => by simp [RVs.len t]
theorem RVs.append : ∀ {ds : List D} {vs : List V} {ds' : List D} {vs' : List V}, RVs G e H ds vs → RVs G e H ds' vs' → RVs G e H (ds ++ ds') (vs ++ vs')
  | _, _, _, _, .nil, r => r
  | _, _, _, _, .cons r t, q => .cons r (RVs.append t q)
theorem RVs.take : ∀ {ds : List D} {vs : List V} (n : Nat), RVs G e H ds vs → RVs G e H (ds.take n) (vs.take n)
  | _, _, 0, _ => .nil
  | _, _, _ + 1, .nil => .nil
  | _, _, n + 1, .cons r t => .cons r (RVs.take n t)
theorem RVs.drop : ∀ {ds : List D} {vs : List V} (n : Nat), RVs G e H ds vs → RVs G e H (ds.drop n) (vs.drop n)
  | _, _, 0, r => r
  | _, _, _ + 1, .nil => .nil
  | _, _, n + 1, .cons _ t => RVs.drop n t
theorem RVs.flat {ds : List D} {vs : List V} (r : RVs G e H ds vs) : ∀ k : Nat, RVs G e H (List.replicate k ds).flatten (List.replicate k vs).flatten
  | 0 => .nil
  | k + 1 => by
    simp only [List.replicate_succ, List.flatten_cons]
    exact r.append (RVs.flat r k)
theorem RVs.set {d : D} {v : V} (r : RV G e H d v) : ∀ {ds : List D} {vs : List V} (i : Nat), RVs G e H ds vs → RVs G e H (ds.set i d) (vs.set i v)
  | _, _, _, .nil => .nil
  | _, _, 0, .cons _ t => .cons r t
  | _, _, i + 1, .cons q t => .cons q (RVs.set r i t)
theorem RE.get : ∀ {ρ : Env} {σ : St} {i : Nat} {u : U}, RE G e m H ρ σ → ρ[i]? = some (some u) → ∃ v, σ[i]? = some (some v) ∧ RU G e m H u v
  | _, _, _, _, .nil, h => by simp at h
  | _, _, 0, _, .em _, h => by simp at h
  | _, _, 0, _, .cns r _, h => by simp at h; subst h; exact ⟨_, rfl, r⟩
  | _, _, i + 1, _, .em t, h => by
    obtain ⟨v, h1, h2⟩ := RE.get (i := i) t (by simpa using h)
    exact ⟨v, by simpa using h1, h2⟩
  | _, _, i + 1, _, .cns _ t, h => by
    obtain ⟨v, h1, h2⟩ := RE.get (i := i) t (by simpa using h)
    exact ⟨v, by simpa using h1, h2⟩
theorem RE.set {u : U} {v : V} (r : RU G e m H u v) : ∀ {ρ : Env} {σ : St} (i : Nat), RE G e m H ρ σ → RE G e m H (ρ.set i (some u)) (σ.set i (some v))
  | _, _, _, .nil => .nil
  | _, _, 0, .em t => .cns r t
  | _, _, 0, .cns _ t => .cns r t
  | _, _, i + 1, .em t => .em (RE.set r i t)
  | _, _, i + 1, .cns q t => .cns q (RE.set r i t)
/-- names that hold nothing of use any more -/
theorem RE.wipe1 : ∀ {ρ : Env} {σ : St} (i : Nat), RE G e m H ρ σ → RE G e m H (ρ.set i none) σ
  | _, _, _, .nil => .nil
  | _, _, 0, .em t => .em t
  | _, _, 0, .cns _ t => .em t
  | _, _, i + 1, .em t => .em (RE.wipe1 i t)
  | _, _, i + 1, .cns q t => .cns q (RE.wipe1 i t)
theorem RV.none_of {d : D} {v : V} (r : RV G e H d v) : decide (v = V.non) = (match d with | .non => true | _ => false) := by
  cases r <;> simp
theorem Rd.nn {a : Addr} {o : HO} {e : List Addr} (h : Rd H a o) : H a ≠ none := by
  rcases h with h | ⟨o', h⟩ <;> rw [h] <;> simp
end

/-! ### new objects -/
section
variable {G : Gc} {x m e : List Addr} {H : Hp} {p : Addr} {o : HO}
theorem Ext.new (h : H p = none) : Ext G m H m (upd H p o) where
  keep := fun b u q _ _ => by rw [upd_ne (ne_of_none q h)]; exact q
  tups := fun b u q => by rw [upd_ne (ne_of_none q h)]; exact q
  frzs := fun b u w q => by rw [upd_ne (ne_of_none q h)]; exact q
  owns := fun b u q => by rw [upd_ne (ne_of_none q h)]; exact q
  live := fun b ⟨u, q, n⟩ => ⟨u, by rw [upd_ne (ne_of_none q h)]; exact q, n⟩
  pre := ⟨[], by simp, fun _ z => by cases z⟩
  tab := fun t => t.ext fun b u q => by rw [upd_ne (ne_of_none q h)]; exact q
theorem sqt_new (h : H p = none) {a : Addr} {xs : List V} (q : SqT G.K H a xs) : SqT G.K (upd H p o) a xs := SqT.ext (G := G) (m := []) (m' := []) (Ext.new h) q
theorem kp_new (h : H p = none) (he : ∀ b ∈ e, ∃ u, H b = some u) : Keep G e H e (upd H p o) where
  tup := fun a xs q => sqt_new h q
  lst := fun a ns q => Sc.ext (G := G) (m := []) (m' := []) (Ext.new h) q
  lsk := fun a xs q n => ⟨by rw [upd_ne (ne_of_none q h)]; exact q, n⟩
  dic := fun a u t ks xs q n r => ⟨by rw [upd_ne (ne_of_none q h)]; exact q, n, r.ext fun _ _ z => sqt_new h z⟩
theorem new_out (h : H p = none) (he : ∀ b ∈ e, ∃ u, H b = some u) : p ∉ e := fun z => by
  obtain ⟨u, q⟩ := he p z
  rw [h] at q; cases q
theorem RV.newTup {ds : List D} {vs : List V} (r : RVs G e H ds vs) (h : H p = none) (he : ∀ b ∈ e, ∃ u, H b = some u) : RV G e (upd H p (.tup vs)) (.tup ds) (.ref p) :=
  .tup (.inl (.inl upd_same)) (r.keep (kp_new h he))
theorem RV.newLst {ds : List D} {vs : List V} (r : RVs G e H ds vs) (h : H p = none) (he : ∀ b ∈ e, ∃ u, H b = some u) : RV G e (upd H p (.lst vs)) (.lst ds) (.ref p) :=
  .lst upd_same (new_out h he) (r.keep (kp_new h he))
theorem RV.newDic {o : HO} {t : Bool} {ks : List NestedKey} {ds : List D} {vs : List V} (r : RVs G e H ds vs) (q : RD G H p t ks vs o) (h : H p = none) (he : ∀ b ∈ e, ∃ u, H b = some u) : RV G e (upd H p o) (.dic t ks ds) (.ref p) :=
  .dic upd_same (new_out h he) (q.ext fun _ _ z => sqt_new h z) (r.keep (kp_new h he))
theorem RS.live {S : Sto} {a : Addr} (r : RS G e m H S) (h : a ∈ m) : ∃ o, H a = some o := by
  obtain ⟨i, hi, e1⟩ := List.mem_iff_getElem.mp h
  have hl : i < S.length := by rw [← r.len]; exact hi
  obtain ⟨o, h1, _⟩ := r.at' i a S[i] (by rw [List.getElem?_eq_getElem hi, e1]) (List.getElem?_eq_getElem hl)
  exact ⟨o, h1⟩
theorem Rp.trk {ρ : Env} {S : Sto} {σ : St} (p : Rp G x m H ρ S σ) : ∀ b ∈ x ++ m, ∃ o, H b = some o := fun b hb => by
  rcases List.mem_append.mp hb with hb | hb
  · obtain ⟨o, q, _⟩ := p.ex b hb
    exact ⟨o, q⟩
  · exact p.sto.live hb
theorem RS.nt {S : Sto} {a : Addr} (r : RS G e m H S) (h : a ∈ m) : Nt H a := by
  obtain ⟨i, hi, e1⟩ := List.mem_iff_getElem.mp h
  have hl : i < S.length := by rw [← r.len]; exact hi
  obtain ⟨o, h1, h2⟩ := r.at' i a S[i] (by rw [List.getElem?_eq_getElem hi, e1]) (List.getElem?_eq_getElem hl)
  refine ⟨o, h1, ?_⟩
  generalize S[i] = c at h2
  cases h2 with
  | lst _ => exact fun ps z => by cases z
  | dic q _ => exact q.notbl
  | ins _ _ _ => exact fun ps z => by cases z
theorem Rp.trkN {ρ : Env} {S : Sto} {σ : St} (p : Rp G x m H ρ S σ) : ∀ b ∈ x ++ m, Nt H b := fun b hb => by
  rcases List.mem_append.mp hb with hb | hb
  · exact p.ex b hb
  · exact p.sto.nt hb
theorem RF.keep {e' : List Addr} {H' : Hp} (k : Keep G e H e' H') : ∀ {fs : List (Str × D)} {gs : List (Str × V)}, RF G e H fs gs → RF G e' H' fs gs
  | _, _, .nil => .nil
  | _, _, .cons r t => .cons (r.keep k) (RF.keep k t)
/-- the store stays where the cells stay -/
theorem RS.stay {S : Sto} {H' : Hp} (r : RS G (x ++ m) m H S) (E : Ext G m H m H') (h : ∀ a ∈ m, H' a = H a) : RS G (x ++ m) m H' S := by
  refine ⟨r.len, r.nd, r.ins, fun i a c h1 h2 => ?_⟩
  obtain ⟨o, q1, q2⟩ := r.at' i a c h1 h2
  refine ⟨o, by rw [h a (List.mem_of_getElem? h1)]; exact q1, ?_⟩
  cases q2 with
  | lst q => exact .lst (q.keep E.kp)
  | dic q1 q => exact .dic (q1.ext fun _ _ z => SqT.ext E z) (q.keep E.kp)
  | ins g1 g2 q => exact .ins g1 (E.owns _ _ g2) (q.keep E.kp)
theorem RS.new {S : Sto} (r : RS G (x ++ m) m H S) (h : H p = none) : RS G (x ++ m) m (upd H p o) S :=
  r.stay (Ext.new h) fun a ha => by
    obtain ⟨u, q⟩ := r.live ha
    rw [upd_ne (ne_of_none q h)]
end

/-! ### lists of expressions -/
def argsM : List ME → MA
  | [] => fun _ S => .ok [] S
  | f :: fs => fun ρ S => (f ρ S).bind fun u S1 => (argsM fs ρ S1).bind fun us S2 => .ok (u :: us) S2
theorem O.bind_ok {α β : Type} {o : O α} {f : α → Sto → O β} {b : β} {S' : Sto} (h : o.bind f = .ok b S') : ∃ a S, o = .ok a S ∧ f a S = .ok b S' := by
  cases o with
  | ok a S => exact ⟨a, S, rfl, h⟩
  | ex e S => simp [O.bind] at h
  | un => simp [O.bind] at h
theorem argsM_len : ∀ {fs : List ME} {ρ : Env} {S S' : Sto} {us : List U}, argsM fs ρ S = .ok us S' → us.length = fs.length
  | [], _, _, _, _, h => by simp [argsM] at h; simp [← h.1]
  | f :: fs, ρ, S, S', us, h => by
    obtain ⟨u, S1, h1, h2⟩ := O.bind_ok h
    obtain ⟨us', S2, h3, h4⟩ := O.bind_ok h2
    cases h4
    simp [argsM_len h3]
section
variable {X : Cx} {T : List (Addr × Str)} {W : WX} {e : Expr} {es : List Expr} {f f1 f2 : ME} {fs : List ME} {pos : Pos}
theorem a_nil : PA X [] (tA (gOf X T) W (argsM [])) := pa_mono pa_nil fun σ H Q h => by
  obtain ⟨x, m, ρ, S, p, h⟩ := h
  exact h m H Ext.refl p.sto [] .nil
theorem a_cons (ha : PE X e (tE (gOf X T) W f)) (hr : PA X es (tA (gOf X T) W (argsM fs))) (hs : starEach (e :: es) X.env = (false, eval e X.env) :: starEach es X.env := by rfl) : PA X (e :: es) (tA (gOf X T) W (argsM (f :: fs))) := pa_mono (pa_cons ha hr hs) fun σ H Q h => by
  obtain ⟨x, m, ρ, S, p, h⟩ := h
  refine ⟨x, m, ρ, S, p, (Post.bind h).mono fun u S1 m1 H1 E1 R1 ⟨_, _, h1⟩ v rv => ?_⟩
  refine ⟨x, m1, ρ, S1, p.ext E1 R1, (Post.bind h1).mono fun us S2 m2 H2 E2 R2 ⟨_, _, h2⟩ vs rvs => ?_⟩
  exact h2 m2 H2 Ext.refl R2 _ (.cons (rv.ext E2) rvs)

/-! ### names, constants -/
def varM (i : Nat) : ME := fun ρ S => match ρ[i]? with
  | some (some u) => .ok u S
  | _ => .un
def conM (d : D) : ME := fun _ S => .ok (.d d) S
theorem e_var (i : Nat) {x : Str} (hN : X.N[i]? = some x := by rfl) (hv : Vis X.env.scope x := by first | exact Or.inl rfl | exact Or.inr (Or.inl rfl) | exact Or.inr (Or.inr rfl)) (hd : (x == ("__debug__" : Str)) = false := by decide)
    (hcd : (x == ("__classdict__" : Str)) = false := by decide) : PE X (.Name x pos) (tE (gOf X T) W (varM i)) := pe_mono (pe_var hN hv hd hcd) fun σ H Q h => by
  obtain ⟨y, m, ρ, S, p, h⟩ := h
  unfold varM at h
  cases q : ρ[i]? with
  | none => rw [q] at h; exact h.elim
  | some o =>
    cases o with
    | none => rw [q] at h; exact h.elim
    | some u =>
      rw [q] at h
      obtain ⟨v, h1, h2⟩ := p.env.get q
      exact ⟨v, h1, h m H Ext.refl p.sto v h2⟩
theorem tC_of {v : V} {d : D} (hr : ∀ e H, RV (gOf X T) e H d v) : ∀ σ H Q, tE (gOf X T) W (conM d) σ H Q → tC v σ H Q := fun σ H Q h => by
  obtain ⟨x, m, ρ, S, p, h⟩ := h
  exact h m H Ext.refl p.sto v (.d (hr _ _))
theorem e_int {i j pos} : PE X (.Constant (.int i) j pos) (tE (gOf X T) W (conM (.int i))) := pe_mono pe_int (tC_of fun _ _ => .int i)
theorem e_bl {i j pos} : PE X (.Constant (.bool i) j pos) (tE (gOf X T) W (conM (.bl i))) := pe_mono pe_bl (tC_of fun _ _ => .bl i)
theorem e_non {j pos} : PE X (.Constant .none j pos) (tE (gOf X T) W (conM .non)) := pe_mono pe_non (tC_of fun _ _ => .non)
theorem e_str {i j pos} : PE X (.Constant (.str i) j pos) (tE (gOf X T) W (conM (.str i))) := pe_mono pe_str (tC_of fun _ _ => .str i)
/-- a constant of the module -/
structure KD (G : Gc) (x : Str) (d : D) : Prop where
  ex : ∃ u v, G.mg x = some u ∧ RelV v u ∧ ∀ e H, RV G e H d v
theorem e_glob {x : Str} {d : D} (h : KD (gOf X T) x d) (hg : Gl X x := by rfl) (hd : (x == ("__debug__" : Str)) = false := by decide) : PE X (.Name x pos) (tE (gOf X T) W (conM d)) := by
  obtain ⟨u, v, h1, h2, h3⟩ := h.ex
  exact pe_mono (pe_glob hg h1 h2 hd) (tC_of h3)

/-! ### displays -/
def tupM (fs : List ME) : ME := fun ρ S => (argsM fs ρ S).bind fun us S' => match pures us with
  | some ds => .ok (.d (.tup ds)) S'
  | none => .un
def lstM (fs : List ME) : ME := fun ρ S => (argsM fs ρ S).bind fun us S' => match pures us with
  | some ds => .ok (.d (.lst ds)) S'
  | none => .un
def nlsM (fs : List ME) : ME := fun ρ S => (argsM fs ρ S).bind fun us S' => match pures us with
  | some ds => .ok (.c S'.length) (S' ++ [.lst ds])
  | none => .un
theorem e_tup {k} (h : PA X es (tA (gOf X T) W (argsM fs))) (hl : Nat.ble fs.length 1000 = true := by rfl) : PE X (.Tuple es k pos) (tE (gOf X T) W (tupM fs)) := pe_mono (pe_tup h) fun σ H Q h => by
  obtain ⟨x, m, ρ, S, p, h⟩ := h
  cases q : argsM fs ρ S with
  | ok us S' =>
    refine ⟨x, m, ρ, S, p, ?_⟩
    rw [q]
    intro m1 H1 E1 R1 vs rvs
    have hn : vs.length = fs.length := by rw [← RUs.length rvs, argsM_len q]
    refine ⟨Nat.le_of_lt (small1000 (by rw [hn]; exact Nat.le_of_ble_eq_true hl)), fun p' np => ?_⟩
    simp only [tupM, q, O.bind] at h
    split at h
    · rename_i ds hd
      exact h m1 _ (E1.trans (Ext.new np)) (R1.new np) _ (.d (RV.newTup (RUs.pure rvs hd) np (p.ext E1 R1).trk))
    · exact h.elim
  | ex e S' =>
    refine ⟨x, m, ρ, S, p, ?_⟩
    simp only [tupM, q, O.bind] at h ⊢
    exact h
  | un =>
    simp only [tupM, q, O.bind] at h
    exact h.elim
theorem e_lst (h : PA X es (tA (gOf X T) W (argsM fs))) (hl : Nat.ble fs.length 1000 = true := by rfl) : PE X (.List es pos) (tE (gOf X T) W (lstM fs)) := pe_mono (pe_lst h) fun σ H Q h => by
  obtain ⟨x, m, ρ, S, p, h⟩ := h
  cases q : argsM fs ρ S with
  | ok us S' =>
    refine ⟨x, m, ρ, S, p, ?_⟩
    rw [q]
    intro m1 H1 E1 R1 vs rvs
    have hn : vs.length = fs.length := by rw [← RUs.length rvs, argsM_len q]
    refine ⟨Nat.le_of_lt (small1000 (by rw [hn]; exact Nat.le_of_ble_eq_true hl)), fun p' np => ?_⟩
    simp only [lstM, q, O.bind] at h
    split at h
    · rename_i ds hd
      exact h m1 _ (E1.trans (Ext.new np)) (R1.new np) _ (.d (RV.newLst (RUs.pure rvs hd) np (p.ext E1 R1).trk))
    · exact h.elim
  | ex e S' =>
    refine ⟨x, m, ρ, S, p, ?_⟩
    simp only [lstM, q, O.bind] at h ⊢
    exact h
  | un =>
    simp only [lstM, q, O.bind] at h
    exact h.elim
end
/-! a new object becomes a cell -/
section
variable {G : Gc} {x m : List Addr} {H : Hp} {S : Sto} {p : Addr} {o : HO} {c : Cell}
theorem Ext.cell (np : H p = none) : Ext G m H (m ++ [p]) (upd H p o) :=
  { (Ext.new (G := G) (m := m) (o := o) np) with pre := ⟨[p], rfl, fun b hb => by have : b = p := by simpa using hb
                                                                                  subst this; exact fun ⟨u, q, _⟩ => by rw [np] at q; cases q⟩ }
theorem RC.ext {m' : List Addr} {H' : Hp} {a : Addr} {c : Cell} {o : HO} (E : Ext G m H m' H') (q : RC G (x ++ m) H a c o) : RC G (x ++ m') H' a c o := by
  cases q with
  | lst q => exact .lst (q.keep E.kp)
  | dic q1 q => exact .dic (q1.ext fun _ _ z => SqT.ext E z) (q.keep E.kp)
  | ins g1 g2 q => exact .ins g1 (E.owns _ _ g2) (q.keep E.kp)
theorem RS.cell (r : RS G (x ++ m) m H S) (np : H p = none) (hc : RC G (x ++ (m ++ [p])) (upd H p o) p c o) : RS G (x ++ (m ++ [p])) (m ++ [p]) (upd H p o) (S ++ [c]) := by
  have nm : p ∉ m := fun z => by
    obtain ⟨u, q⟩ := r.live z
    rw [np] at q; cases q
  refine ⟨by simp [r.len], List.nodup_append.mpr ⟨r.nd, by simp, fun a ha b hb => ?_⟩, fun b hb => ?_, fun i a c' h1 h2 => ?_⟩
  · have : b = p := by simpa using hb
    subst this
    exact fun z => nm (z ▸ ha)
  · exact List.mem_append_right _ hb
  · by_cases hi : i < m.length
    · rw [List.getElem?_append_left hi] at h1
      rw [List.getElem?_append_left (by rw [← r.len]; exact hi)] at h2
      obtain ⟨o', q1, q2⟩ := r.at' i a c' h1 h2
      exact ⟨o', by rw [upd_ne (ne_of_none q1 np)]; exact q1, q2.ext (Ext.cell np)⟩
    · have e1 : i = m.length := by
        have := (List.getElem?_eq_some_iff.mp h1).1
        simp at this
        omega
      subst e1
      rw [List.getElem?_append_right (Nat.le_refl _), Nat.sub_self] at h1
      rw [r.len, List.getElem?_append_right (Nat.le_refl _), Nat.sub_self] at h2
      have e2 : p = a := Option.some.inj h1
      have e3 : c = c' := Option.some.inj h2
      subst e2 e3
      exact ⟨o, upd_same, hc⟩
end
section
variable {X : Cx} {T : List (Addr × Str)} {W : WX} {e : Expr} {es : List Expr} {f f1 f2 : ME} {fs : List ME} {pos : Pos}
theorem e_nls (h : PA X es (tA (gOf X T) W (argsM fs))) (hl : Nat.ble fs.length 1000 = true := by rfl) : PE X (.List es pos) (tE (gOf X T) W (nlsM fs)) := pe_mono (pe_lst h) fun σ H Q h => by
  obtain ⟨x, m, ρ, S, p, h⟩ := h
  cases q : argsM fs ρ S with
  | ok us S' =>
    refine ⟨x, m, ρ, S, p, ?_⟩
    rw [q]
    intro m1 H1 E1 R1 vs rvs
    have hn : vs.length = fs.length := by rw [← RUs.length rvs, argsM_len q]
    refine ⟨Nat.le_of_lt (small1000 (by rw [hn]; exact Nat.le_of_ble_eq_true hl)), fun p' np => ?_⟩
    simp only [nlsM, q, O.bind] at h
    split at h
    · rename_i ds hd
      have E2 : Ext (gOf X T) m1 H1 (m1 ++ [p']) (upd H1 p' (.lst vs)) := Ext.cell np
      exact h (m1 ++ [p']) _ (E1.trans E2) (R1.cell np (.lst ((RUs.pure rvs hd).keep E2.kp))) _ (.c (by rw [← R1.len]; simp))
    · exact h.elim
  | ex e S' =>
    refine ⟨x, m, ρ, S, p, ?_⟩
    simp only [nlsM, q, O.bind] at h ⊢
    exact h
  | un =>
    simp only [nlsM, q, O.bind] at h
    exact h.elim

/-! ### operators -/
def op2M (g : D → D → Option D) (f1 f2 : ME) : ME := fun ρ S => (f1 ρ S).bind fun u S1 => (f2 ρ S1).bind fun w S2 =>
  match rd S2 u, rd S2 w with
  | some x, some y => match g x y with
    | some z => .ok (.d z) S2
    | none => .un
  | _, _ => .un
def op1M (g : D → Option D) (f1 : ME) : ME := fun ρ S => (f1 ρ S).bind fun u S1 =>
  match rd S1 u with
  | some x => match g x with
    | some z => .ok (.d z) S1
    | none => .un
  | none => .un
/-- an operation that makes no cell and changes none: what is asked, by data -/
def rG (G : Gc) (g : D → D → Option D) : R2 := fun vx vy H Q => ∃ x y z e m, g x y = some z ∧ (∀ b ∈ e, ∃ o, H b = some o) ∧ RT G e H x vx ∧ RT G e H y vy ∧
  ∀ H' w, Ext G m H m H' → (∀ a ∈ m, H a ≠ none → H' a = H a) → RV G e H' z w → Q w H'
def rG1 (G : Gc) (g : D → Option D) : V → Hp → VK → Prop := fun vx H Q => ∃ x z e m, g x = some z ∧ (∀ b ∈ e, ∃ o, H b = some o) ∧ RT G e H x vx ∧
  ∀ H' w, Ext G m H m H' → (∀ a ∈ m, H a ≠ none → H' a = H a) → RV G e H' z w → Q w H'
theorem op2_red {a b : TE} {g : D → D → Option D} {σ : St} {H : Hp} {Q : VK} (h : tE (gOf X T) W (op2M g f1 f2) σ H Q) : tOp (rG (gOf X T) g) (tE (gOf X T) W f1) (tE (gOf X T) W f2) σ H Q := by
  obtain ⟨x, m, ρ, S, p, h⟩ := h
  refine ⟨x, m, ρ, S, p, (Post.bind h).mono fun u S1 m1 H1 E1 R1 ⟨_, _, h1⟩ v rv => ?_⟩
  refine ⟨x, m1, ρ, S1, p.ext E1 R1, (Post.bind h1).mono fun w S2 m2 H2 E2 R2 ⟨_, _, h2⟩ v' rv' => ?_⟩
  have p2 := (p.ext E1 R1).ext E2 R2
  skip
  split at h2
  · rename_i dx dy q1 q2
    split at h2
    · rename_i z q3
      exact ⟨dx, dy, z, x ++ m2, m2, q3, p2.trk, (rv.ext E2).rt R2 q1, rv'.rt R2 q2, fun H' w' E3 hs r => h2 m2 H' E3 (R2.stay E3 fun a ha => hs a ha (by obtain ⟨o, q⟩ := R2.live ha; rw [q]; simp)) w' (.d r)⟩
    · exact h2.elim
  · exact h2.elim
theorem op1_red {g : D → Option D} {σ : St} {H : Hp} {Q : VK} (h : tE (gOf X T) W (op1M g f1) σ H Q) : tUn (rG1 (gOf X T) g) (tE (gOf X T) W f1) σ H Q := by
  obtain ⟨x, m, ρ, S, p, h⟩ := h
  refine ⟨x, m, ρ, S, p, (Post.bind h).mono fun u S1 m1 H1 E1 R1 ⟨_, _, h1⟩ v rv => ?_⟩
  have p1 := p.ext E1 R1
  skip
  split at h1
  · rename_i dx q1
    split at h1
    · rename_i z q3
      exact ⟨dx, z, x ++ m1, m1, q3, p1.trk, rv.rt R1 q1, fun H' w' E3 hs r => h1 m1 H' E3 (R1.stay E3 fun a ha => hs a ha (by obtain ⟨o, q⟩ := R1.live ha; rw [q]; simp)) w' (.d r)⟩
    · exact h1.elim
  · exact h1.elim
theorem e_op {a b : Expr} {op : Operator} {g : D → D → Option D} (ho : OpR X (binaryOp op) (rG (gOf X T) g)) (ha : PE X a (tE (gOf X T) W f1)) (hb : PE X b (tE (gOf X T) W f2)) : PE X (.BinOp a op b pos) (tE (gOf X T) W (op2M g f1 f2)) :=
  pe_mono (pe_op ho ha hb) fun σ H Q h => op2_red (a := fun _ _ _ => True) (b := fun _ _ _ => True) h
theorem e_cmp {a b : Expr} {op : CmpOp} {g : D → D → Option D} (ho : OpR X (compareOp op) (rG (gOf X T) g)) (ha : PE X a (tE (gOf X T) W f1)) (hb : PE X b (tE (gOf X T) W f2)) (hm : behindInMarks op b = false := by first | exact nomark _ | rfl) : PE X (.Compare a [op] [b] pos) (tE (gOf X T) W (op2M g f1 f2)) :=
  pe_mono (pe_cmpR ho ha hb hm) fun σ H Q h => op2_red (a := fun _ _ _ => True) (b := fun _ _ _ => True) h
theorem e_un {a : Expr} {op : UnaryOp} {g : D → Option D} (ho : UnR X (unaryOp op) (rG1 (gOf X T) g)) (ha : PE X a (tE (gOf X T) W f1)) : PE X (.UnaryOp op a pos) (tE (gOf X T) W (op1M g f1)) :=
  pe_mono (pe_un ho ha) fun σ H Q h => op1_red h
/-- a value that is a truth, as a test -/
def tstM (f : ME) : MT := fun ρ S => (f ρ S).bind fun u S1 => match u with
  | .d (.bl b) => .ok b S1
  | _ => .un
theorem tst_red {t : TE} {σ : St} {H : Hp} {Q : Bool → Hp → Prop} (h : tT (gOf X T) W (tstM f) σ H Q) : tE (gOf X T) W f σ H fun x H' => ∃ k, x = .bl k ∧ Q k H' := by
  obtain ⟨x, m, ρ, S, p, h⟩ := h
  refine ⟨x, m, ρ, S, p, (Post.bind h).mono fun u S1 m1 H1 E1 R1 ⟨_, _, h1⟩ v rv => ?_⟩
  split at h1
  · rename_i b
    cases rv with
    | d r => cases r; exact ⟨_, rfl, h1 m1 H1 Ext.refl R1⟩
  · exact h1.elim
theorem t_cmp {a b : Expr} {op : CmpOp} {g : D → D → Option D} (ho : OpR X (compareOp op) (rG (gOf X T) g)) (ha : PE X a (tE (gOf X T) W f1)) (hb : PE X b (tE (gOf X T) W f2)) (hm : behindInMarks op b = false := by first | exact nomark _ | rfl) : PT X (.Compare a [op] [b] pos) (tT (gOf X T) W (tstM (op2M g f1 f2))) :=
  pt_mono (pt_cmpR ho ha hb hm) fun σ H Q h => op2_red (a := fun _ _ _ => True) (b := fun _ _ _ => True) (tst_red (t := fun _ _ _ => True) h)
theorem t_val {e : Expr} (h : PE X e (tE (gOf X T) W f)) (he : ∀ whole, isTrue e X.env whole = (do let v ← whole; standAt e.pos; holding [v] (truthy v)) := by intro _; rfl) : PT X e (tT (gOf X T) W (tstM f)) :=
  pt_mono (pt_val h he) fun σ H Q h => tst_red (t := fun _ _ _ => True) h
end
end Mir

/-! Mir3: the operators, by data. -/
namespace Mir
open PySem PySem.Spec PyProof.Rows L2
def big : Nat := 1000000
theorem big_ok {n : Nat} (h : n ≤ big) : n ≤ sizeLine := Nat.le_trans h (by rw [sizeLine_eq]; decide)
theorem big_lt {n : Nat} (h : n ≤ big) : n < sizeLine := Nat.lt_of_le_of_lt h (by rw [sizeLine_eq]; decide)

/-! ### data as the library's data -/
mutual
def D.P : D → PyData
  | .non => .none
  | .bl b => .bool b
  | .int i => .int i
  | .str x => .str x
  | .tup xs => .tuple (Ps xs)
  | .lst xs => .list (Ps xs)
  | .dic _ _ _ => .dict []
  | .scr _ => .dict []
def Ps : List D → List PyData
  | [] => []
  | d :: ds => D.P d :: Ps ds
end
theorem Ps_map : ∀ ds : List D, Ps ds = ds.map D.P
  | [] => rfl
  | d :: ds => by simp [Ps, Ps_map ds]
section
variable {G : Gc} {e : List Addr} {H : Hp}
mutual
theorem RV.dp : ∀ {d : D} {v : V}, RV G e H d v → PyData.canLay0 d.P = true → Dp G.K H v d.P
  | _, _, .non, _ => .non
  | _, _, .bl b, _ => .bl b
  | _, _, .int i, _ => .int i
  | _, _, .str x, _ => .str x
  | _, _, .tup h r, c => .tup h (RVs.dp r c)
  | _, _, .lst h n r, c => .lst (.of h) (RVs.dp r c)
  | _, _, .scr h, c => by simp [D.P, PyData.canLay0] at c
  | _, _, .dic h n q r, c => by simp [D.P, PyData.canLay0] at c
theorem RVs.dp : ∀ {ds : List D} {vs : List V}, RVs G e H ds vs → PyData.canLayAll0 (Ps ds) = true → DpAll G.K H vs (Ps ds)
  | _, _, .nil, _ => .nil
  | _, _, .cons r t, c => by
    have c' := Bool.and_eq_true_iff.mp (show (PyData.canLay0 (D.P _) && PyData.canLayAll0 (Ps _)) = true from c)
    exact .cons (RV.dp r c'.1) (RVs.dp t c'.2)
end
theorem RT.dp {d : D} {v : V} (r : RT G e H d v) (c : SeqAt.shaped d.P = true) : Dp G.K H v d.P := by
  have c0 := SeqAt.canLay_of_shaped c
  cases r with
  | of r => exact r.dp c0
  | lst h r => exact .lst (.of h) (r.dp c0)
  | dic h q r => simp [D.P, PyData.canLay0] at c0
end

/-! ### arithmetic -/
def mulOk (i j : Int) : Bool := decide (-(2 ^ 64) < i ∧ i < 2 ^ 64) || decide (-(2 ^ 64) < j ∧ j < 2 ^ 64)
def addG : D → D → Option D
  | .int i, .int j => some (.int (i + j))
  | .str x, .str y => if x.length + y.length ≤ big then some (.str (x ++ y)) else none
  | .tup xs, .tup ys => if xs.length + ys.length ≤ big then some (.tup (xs ++ ys)) else none
  | .lst xs, .lst ys => if xs.length + ys.length ≤ big then some (.lst (xs ++ ys)) else none
  | .lst xs, .scr ns => if xs.length + ns.length ≤ big then some (.lst (xs ++ ns.map D.int)) else none
  | .scr ns, .lst xs => if ns.length + xs.length ≤ big then some (.lst (ns.map D.int ++ xs)) else none
  | _, _ => none
def subG : D → D → Option D
  | .int i, .int j => some (.int (i - j))
  | _, _ => none
def mulG : D → D → Option D
  | .int i, .int j => if mulOk i j then some (.int (i * j)) else none
  | .tup xs, .int k => if xs ≠ [] ∧ 2 ≤ k ∧ k ≤ 1000 ∧ xs.length ≤ 1000 then some (.tup (List.replicate k.toNat xs).flatten) else none
  | .lst xs, .int k => if 0 ≤ k ∧ k ≤ 1000 ∧ xs.length ≤ 1000 then some (.lst (List.replicate k.toNat xs).flatten) else none
  | _, _ => none
def fdivG : D → D → Option D
  | .int i, .int j => if 0 < j ∧ j.natAbs.log2 < 9000 then some (.int (i / j)) else none
  | _, _ => none
def modG : D → D → Option D
  | .int i, .int j => if 0 < j then some (.int (i % j)) else none
  | _, _ => none
def powG : D → D → Option D
  | .int i, .int j => if 0 ≤ j ∧ j ≤ 1000000 ∧ i.natAbs < 2 ^ 64 then some (.int (i ^ j.toNat)) else none
  | _, _ => none
def negG : D → Option D
  | .int i => some (.int (-i))
  | _ => none
def ltG : D → D → Option D
  | .int i, .int j => some (.bl (decide (i < j)))
  | .str x, .str y => some (.bl (decide (x.cps.toList < y.cps.toList)))
  | _, _ => none
def leG : D → D → Option D
  | .int i, .int j => some (.bl (decide (i ≤ j)))
  | _, _ => none
def gtG : D → D → Option D
  | .int i, .int j => some (.bl (decide (j < i)))
  | _, _ => none
def geG : D → D → Option D
  | .int i, .int j => some (.bl (decide (j ≤ i)))
  | _, _ => none
def eqD (x y : D) : Bool := PyData.eqv x.P y.P
def sh (x : D) : Bool := SeqAt.shaped x.P
def eqG (x y : D) : Option D := if sh x && sh y then some (.bl (eqD x y)) else none
def neG (x y : D) : Option D := if sh x && sh y then some (.bl (!eqD x y)) else none
def isNon : D → Bool
  | .non => true
  | _ => false
def isG : D → D → Option D
  | x, .non => some (.bl (isNon x))
  | _, _ => none
def isNotG : D → D → Option D
  | x, .non => some (.bl (!isNon x))
  | _, _ => none

section
variable {X : Cx} {T : List (Addr × Str)} {pins : List (Addr × Obj)} {s : Shared} {σ : St} {H : Hp} {x y : D} {e : List Addr} {vx vy : V} {v u : Value} {Q : VK}
theorem noKeep {m : List Addr} {H H' : Hp} (h : H' = H) : ∀ a ∈ m, H a ≠ none → H' a = H a := fun _ _ _ => by rw [h]
theorem newKeep {m : List Addr} {H : Hp} {p : Addr} {o : HO} (h : H p = none) : ∀ a ∈ m, H a ≠ none → upd H p o a = H a := fun a _ q => upd_ne fun z => q (z ▸ h)
/-- list + list, tracked or known -/
theorem op_catL : OpR X (binaryOp .Add) (fun x y H Q => ∃ l b xs zs, x = .ref l ∧ y = .ref b ∧ SqL X.K H l xs ∧ SqL X.K H b zs ∧ xs.length + zs.length ≤ sizeLine ∧ ∀ p, H p = none → Q (.ref p) (upd H p (.lst (xs ++ zs)))) := by
  intro pins s σ H x y v u Q I rx ry h
  obtain ⟨l, b, xs, zs, rfl, rfl, hH, hB, hz, q⟩ := h
  cases rx
  cases ry
  obtain ⟨its1, r1, ⟨⟨c1, d1, t1, s1⟩, n1, g1, e1, f1, k1⟩, _⟩ := I.list hH
  obtain ⟨its2, r2, ⟨⟨c2, d2, t2, s2⟩, n2, g2, e2, f2, k2⟩, _⟩ := I.list hB
  simp only at e1 f1 k1 e2 f2 k2
  subst e1 f1 k1 e2 f2 k2
  refine concat_meets ⟨_, g1, rfl⟩ ⟨_, g2, rfl⟩ noFill_list_add seq_list_add PySem.F.slot_list_add PySem.F.entry_list_add (PySem.F.args_list_add_2 _ _)
    (list_addW l b its1.toArray its2.toArray n1 n2 none none s1 s2 (by rw [List.size_toArray, List.size_toArray, ← r1.length, ← r2.length]; exact hz)) ⟨g1, g2, ?_⟩
  rw [show its1.toArray ++ its2.toArray = (its1 ++ its2).toArray by simp]
  exact ⟨.ref _, _, I.lnew (t' := s.toks) (r1.append r2) (by rw [List.length_append]; exact hz), rfl, q _ I.fresh⟩
theorem RT.tup {G : Gc} {ds : List D} (r : RT G e H (.tup ds) vx) : ∃ a xs, vx = .ref a ∧ SqT G.K H a xs ∧ RVs G e H ds xs := by
  cases r with
  | of r => cases r with
    | tup h r => exact ⟨_, _, rfl, h, r⟩
theorem RT.lst' {G : Gc} {ds : List D} (r : RT G e H (.lst ds) vx) : ∃ a xs, vx = .ref a ∧ H a = some (.lst xs) ∧ RVs G e H ds xs := by
  cases r with
  | of r => cases r with
    | lst h n r => exact ⟨_, _, rfl, h, r⟩
  | lst h r => exact ⟨_, _, rfl, h, r⟩
theorem RT.dic' {G : Gc} {t : Bool} {ks : List NestedKey} {ds : List D} (r : RT G e H (.dic t ks ds) vx) : ∃ a o xs, vx = .ref a ∧ H a = some o ∧ RD G H a t ks xs o ∧ RVs G e H ds xs := by
  cases r with
  | of r => cases r with
    | dic h n q r => exact ⟨_, _, _, rfl, h, q, r⟩
  | dic h q r => exact ⟨_, _, _, rfl, h, q, r⟩
theorem RT.int {G : Gc} {i : Int} (r : RT G e H (.int i) vx) : vx = .int i := by
  cases r with
  | of r => cases r; rfl
theorem RT.str {G : Gc} {i : Str} (r : RT G e H (.str i) vx) : vx = .str i := by
  cases r with
  | of r => cases r; rfl
theorem RT.bl {G : Gc} {i : Bool} (r : RT G e H (.bl i) vx) : vx = .bl i := by
  cases r with
  | of r => cases r; rfl
theorem RT.non {G : Gc} (r : RT G e H .non vx) : vx = .non := by
  cases r with
  | of r => cases r; rfl

theorem RT.scr {G : Gc} {ns : List Int} (r : RT G e H (.scr ns) vx) : ∃ a, vx = .ref a ∧ SqL G.K H a (ns.map V.int) := by
  cases r with
  | of r => cases r with
    | scr h => exact ⟨_, rfl, h.sq⟩
theorem rvs_ints {G : Gc} : ∀ ns : List Int, RVs G e H (ns.map D.int) (ns.map V.int)
  | [] => .nil
  | n :: ns => .cons (.int n) (rvs_ints ns)
theorem o_add : OpR X (binaryOp .Add) (rG (gOf X T) addG) := by
  intro pins s σ H vx vy v u Q I rx ry ⟨x, y, z, e, m, hg, tr, r1, r2, q⟩
  unfold addG at hg
  split at hg
  · rename_i i j
    cases hg
    cases r1.int
    cases r2.int
    exact op_add pins s σ H _ _ v u Q I rx ry ⟨i, j, rfl, rfl, q _ _ Ext.refl (noKeep rfl) (.int _)⟩
  · rename_i i j
    split at hg
    · rename_i hl
      cases hg
      cases r1.str
      cases r2.str
      exact op_add_str pins s σ H _ _ v u Q I rx ry ⟨i, j, rfl, rfl, big_ok hl, q _ _ Ext.refl (noKeep rfl) (.str _)⟩
    · cases hg
  · rename_i ds es
    split at hg
    · rename_i hl
      cases hg
      obtain ⟨a, xs, rfl, h1, q1⟩ := r1.tup
      obtain ⟨b, ys, rfl, h2, q2⟩ := r2.tup
      rw [q1.len, q2.len] at hl
      refine op_catA pins s σ H _ _ v u Q I rx ry ⟨a, b, xs, ys, rfl, rfl, h1, h2, big_ok hl, fun z => ?_, fun _ z => ?_, fun _ _ p hp => ?_⟩
      · subst z
        cases q1
        exact q _ _ Ext.refl (noKeep rfl) (.tup h2 q2)
      · subst z
        cases q2
        rw [List.append_nil] at q
        exact q _ _ Ext.refl (noKeep rfl) (.tup h1 q1)
      · exact q _ _ (Ext.new hp) (newKeep hp) (RV.newTup (q1.append q2) hp tr)
    · cases hg
  · rename_i ds es
    split at hg
    · rename_i hl
      cases hg
      obtain ⟨a, xs, rfl, h1, q1⟩ := r1.lst'
      obtain ⟨b, ys, rfl, h2, q2⟩ := r2.lst'
      rw [q1.len, q2.len] at hl
      exact op_catL pins s σ H _ _ v u Q I rx ry ⟨a, b, xs, ys, rfl, rfl, .of h1, .of h2, big_ok hl, fun p hp => q _ _ (Ext.new hp) (newKeep hp) (RV.newLst (q1.append q2) hp tr)⟩
    · cases hg
  · rename_i ds ns
    split at hg
    · rename_i hl
      cases hg
      obtain ⟨a, xs, rfl, h1, q1⟩ := r1.lst'
      obtain ⟨b, rfl, h2⟩ := r2.scr
      rw [q1.len] at hl
      exact op_catL pins s σ H _ _ v u Q I rx ry ⟨a, b, xs, _, rfl, rfl, .of h1, h2, by rw [List.length_map]; exact big_ok hl, fun p hp => q _ _ (Ext.new hp) (newKeep hp) (RV.newLst (q1.append (rvs_ints ns)) hp tr)⟩
    · cases hg
  · rename_i ns ds
    split at hg
    · rename_i hl
      cases hg
      obtain ⟨a, xs, rfl, h1, q1⟩ := r2.lst'
      obtain ⟨b, rfl, h2⟩ := r1.scr
      rw [q1.len] at hl
      exact op_catL pins s σ H _ _ v u Q I rx ry ⟨b, a, _, xs, rfl, rfl, h2, .of h1, by rw [List.length_map]; exact big_ok hl, fun p hp => q _ _ (Ext.new hp) (newKeep hp) (RV.newLst ((rvs_ints ns).append q1) hp tr)⟩
    · cases hg
  · cases hg
theorem o_sub : OpR X (binaryOp .Sub) (rG (gOf X T) subG) := by
  intro pins s σ H vx vy v u Q I rx ry ⟨x, y, z, e, m, hg, tr, r1, r2, q⟩
  unfold subG at hg
  split at hg
  · rename_i i j
    cases hg
    cases r1.int
    cases r2.int
    exact op_sub pins s σ H _ _ v u Q I rx ry ⟨i, j, rfl, rfl, q _ _ Ext.refl (noKeep rfl) (.int _)⟩
  · cases hg
theorem o_mul : OpR X (binaryOp .Mult) (rG (gOf X T) mulG) := by
  intro pins s σ H vx vy v u Q I rx ry ⟨x, y, z, e, m, hg, tr, r1, r2, q⟩
  unfold mulG at hg
  split at hg
  · rename_i i j
    split at hg
    · rename_i hm
      cases hg
      cases r1.int
      cases r2.int
      refine op_mul pins s σ H _ _ v u Q I rx ry ⟨i, j, rfl, rfl, ?_, q _ _ Ext.refl (noKeep rfl) (.int _)⟩
      rcases Bool.or_eq_true_iff.mp hm with h | h
      · exact .inl (of_decide_eq_true h)
      · exact .inr (of_decide_eq_true h)
    · cases hg
  · rename_i ds k
    split at hg
    · rename_i hm
      cases hg
      obtain ⟨h0, h1, h2, h3⟩ := hm
      cases r2.int
      obtain ⟨a, xs, rfl, t1, q1⟩ := r1.tup
      refine op_repT pins s σ H _ _ v u Q I rx ry ⟨a, k, xs, rfl, rfl, t1, fun z => h0 ?_, h1, h2, by rw [← q1.len]; exact h3, fun p hp => q _ _ (Ext.new hp) (newKeep hp) (RV.newTup (q1.flat _) hp tr)⟩
      subst z
      cases q1
      rfl
    · cases hg
  · rename_i ds k
    split at hg
    · rename_i hm
      cases hg
      obtain ⟨h1, h2, h3⟩ := hm
      cases r2.int
      obtain ⟨a, xs, rfl, t1, q1⟩ := r1.lst'
      have hb : xs.length * k.toNat ≤ sizeLine := by
        rw [← q1.len]
        exact big_ok (Nat.le_trans (Nat.mul_le_mul h3 (show k.toNat ≤ 1000 by omega)) (by decide))
      exact op_rep pins s σ H _ _ v u Q I rx ry ⟨a, k, xs, rfl, rfl, t1, by omega, by omega, hb, fun p hp => q _ _ (Ext.new hp) (newKeep hp) (RV.newLst (q1.flat _) hp tr)⟩
    · cases hg
  · cases hg
end
end Mir

/-! Mir4: more operators; comparisons; truth; subscripts and slices. -/
namespace Mir
open PySem PySem.Spec PyProof.Rows L2
section
variable {X : Cx} {T : List (Addr × Str)}
theorem wide_fdiv : OpR X (binaryOp .FloorDiv) (rI (fun _ j => 0 < j ∧ j.natAbs.log2 < 9000) fun i j => .int (i / j)) := op_fdivW
theorem o_fdiv : OpR X (binaryOp .FloorDiv) (rG (gOf X T) fdivG) := by
  intro pins s σ H vx vy v u Q I rx ry ⟨x, y, z, e, m, hg, tr, r1, r2, q⟩
  unfold fdivG at hg
  split at hg
  · split at hg
    · rename_i i j hc
      cases hg
      cases r1.int
      cases r2.int
      exact wide_fdiv pins s σ H _ _ v u Q I rx ry ⟨i, j, rfl, rfl, hc, q _ _ Ext.refl (noKeep rfl) (.int _)⟩
    · cases hg
  · cases hg
theorem o_mod : OpR X (binaryOp .Mod) (rG (gOf X T) modG) := by
  intro pins s σ H vx vy v u Q I rx ry ⟨x, y, z, e, m, hg, tr, r1, r2, q⟩
  unfold modG at hg
  split at hg
  · split at hg
    · rename_i i j hc
      cases hg
      cases r1.int
      cases r2.int
      exact op_mod pins s σ H _ _ v u Q I rx ry ⟨i, j, rfl, rfl, hc, q _ _ Ext.refl (noKeep rfl) (.int _)⟩
    · cases hg
  · cases hg
theorem o_pow : OpR X (binaryOp .Pow) (rG (gOf X T) powG) := by
  intro pins s σ H vx vy v u Q I rx ry ⟨x, y, z, e, m, hg, tr, r1, r2, q⟩
  unfold powG at hg
  split at hg
  · split at hg
    · rename_i i j hc
      cases hg
      cases r1.int
      cases r2.int
      exact op_pow pins s σ H _ _ v u Q I rx ry ⟨i, j, rfl, rfl, hc, q _ _ Ext.refl (noKeep rfl) (.int _)⟩
    · cases hg
  · cases hg
theorem o_neg : UnR X (unaryOp .USub) (rG1 (gOf X T) negG) := by
  intro pins s σ H vx v Q I rx ⟨x, z, e, m, hg, tr, r1, q⟩
  unfold negG at hg
  split at hg
  · rename_i i
    cases hg
    cases r1.int
    exact un_neg pins s σ H _ v Q I rx ⟨i, rfl, q _ _ Ext.refl (noKeep rfl) (.int _)⟩
  · cases hg
theorem o_lt : OpR X (compareOp .Lt) (rG (gOf X T) ltG) := by
  intro pins s σ H vx vy v u Q I rx ry ⟨x, y, z, e, m, hg, tr, r1, r2, q⟩
  unfold ltG at hg
  split at hg
  · rename_i i j
    cases hg
    cases r1.int
    cases r2.int
    exact op_lt pins s σ H _ _ v u Q I rx ry ⟨i, j, rfl, rfl, q _ _ Ext.refl (noKeep rfl) (.bl _)⟩
  · rename_i i j
    cases hg
    cases r1.str
    cases r2.str
    exact op_lt_str pins s σ H _ _ v u Q I rx ry ⟨i, j, rfl, rfl, q _ _ Ext.refl (noKeep rfl) (.bl _)⟩
  · cases hg
theorem o_le : OpR X (compareOp .LtE) (rG (gOf X T) leG) := by
  intro pins s σ H vx vy v u Q I rx ry ⟨x, y, z, e, m, hg, tr, r1, r2, q⟩
  unfold leG at hg
  split at hg
  · rename_i i j
    cases hg
    cases r1.int
    cases r2.int
    exact op_le pins s σ H _ _ v u Q I rx ry ⟨i, j, rfl, rfl, q _ _ Ext.refl (noKeep rfl) (.bl _)⟩
  · cases hg
theorem o_gt : OpR X (compareOp .Gt) (rG (gOf X T) gtG) := by
  intro pins s σ H vx vy v u Q I rx ry ⟨x, y, z, e, m, hg, tr, r1, r2, q⟩
  unfold gtG at hg
  split at hg
  · rename_i i j
    cases hg
    cases r1.int
    cases r2.int
    exact op_gt pins s σ H _ _ v u Q I rx ry ⟨i, j, rfl, rfl, q _ _ Ext.refl (noKeep rfl) (.bl _)⟩
  · cases hg
theorem o_ge : OpR X (compareOp .GtE) (rG (gOf X T) geG) := by
  intro pins s σ H vx vy v u Q I rx ry ⟨x, y, z, e, m, hg, tr, r1, r2, q⟩
  unfold geG at hg
  split at hg
  · rename_i i j
    cases hg
    cases r1.int
    cases r2.int
    exact op_ge pins s σ H _ _ v u Q I rx ry ⟨i, j, rfl, rfl, q _ _ Ext.refl (noKeep rfl) (.bl _)⟩
  · cases hg
theorem o_eq (hu : X.A.units + 64 < cLine) : OpR X (compareOp .Eq) (rG (gOf X T) eqG) := by
  intro pins s σ H vx vy v u Q I rx ry ⟨x, y, z, e, m, hg, tr, r1, r2, q⟩
  unfold eqG at hg
  split at hg
  · rename_i hs
    cases hg
    have hs := Bool.and_eq_true_iff.mp hs
    exact op_eqD hu pins s σ H _ _ v u Q I rx ry ⟨x.P, y.P, r1.dp hs.1, r2.dp hs.2, hs.1, hs.2, q _ _ Ext.refl (noKeep rfl) (.bl _)⟩
  · cases hg
theorem o_ne (hu : X.A.units + 64 < cLine) : OpR X (compareOp .NotEq) (rG (gOf X T) neG) := by
  intro pins s σ H vx vy v u Q I rx ry ⟨x, y, z, e, m, hg, tr, r1, r2, q⟩
  unfold neG at hg
  split at hg
  · rename_i hs
    cases hg
    have hs := Bool.and_eq_true_iff.mp hs
    exact op_neD hu pins s σ H _ _ v u Q I rx ry ⟨x.P, y.P, r1.dp hs.1, r2.dp hs.2, hs.1, hs.2, q _ _ Ext.refl (noKeep rfl) (.bl _)⟩
  · cases hg
theorem RT.isn {G : Gc} {e : List Addr} {H : Hp} {d : D} {v : V} (r : RT G e H d v) : decide (v = V.non) = isNon d := by
  cases r with
  | of r => cases r <;> rfl
  | lst h r => rfl
  | dic h q r => rfl
theorem o_is : OpR X (compareOp .Is) (rG (gOf X T) isG) := by
  intro pins s σ H vx vy v u Q I rx ry ⟨x, y, z, e, m, hg, tr, r1, r2, q⟩
  unfold isG at hg
  split at hg
  · cases hg
    cases r2.non
    exact op_isN pins s σ H _ _ v u Q I rx ry ⟨rfl, q _ _ Ext.refl (noKeep rfl) (by rw [r1.isn]; exact .bl _)⟩
  · cases hg
theorem o_isnot : OpR X (compareOp .IsNot) (rG (gOf X T) isNotG) := by
  intro pins s σ H vx vy v u Q I rx ry ⟨x, y, z, e, m, hg, tr, r1, r2, q⟩
  unfold isNotG at hg
  split at hg
  · cases hg
    cases r2.non
    exact op_notN pins s σ H _ _ v u Q I rx ry ⟨rfl, q _ _ Ext.refl (noKeep rfl) (by rw [r1.isn]; exact .bl _)⟩
  · cases hg

/-! ### keys -/
end
mutual
def toN : D → Option NestedKey
  | .non => some .none
  | .bl b => some (.num (if b = true then 1 else 0))
  | .int i => some (.num i)
  | .str x => some (.text x)
  | .tup xs => (toNs xs).map .tup
  | _ => none
def toNs : List D → Option (List NestedKey)
  | [] => some []
  | d :: ds => match toN d, toNs ds with
    | some k, some ks => some (k :: ks)
    | _, _ => none
end
section
variable {G : Gc} {e : List Addr} {H : Hp}
mutual
theorem RV.rn : ∀ {d : D} {v : V} {k : NestedKey}, RV G e H d v → toN d = some k → RN G H k v
  | _, _, _, .non, h => by cases h; exact .none
  | _, _, _, .bl b, h => by cases h; exact .bl b
  | _, _, _, .int i, h => by cases h; exact .num i
  | _, _, _, .str x, h => by cases h; exact .text x
  | _, _, _, .tup h r, q => by
    simp only [toN, Option.map_eq_some_iff] at q
    obtain ⟨ks, q, rfl⟩ := q
    exact .tup h (RVs.rns r q)
  | _, _, _, .lst _ _ _, h => by cases h
  | _, _, _, .dic _ _ _ _, h => by cases h
  | _, _, _, .scr _, h => by cases h
theorem RVs.rns : ∀ {ds : List D} {vs : List V} {ks : List NestedKey}, RVs G e H ds vs → toNs ds = some ks → RNs G H ks vs
  | _, _, _, .nil, h => by cases h; exact .nil
  | _, _, _, .cons r t, h => by
    unfold toNs at h
    split at h
    · rename_i k ks h1 h2
      cases h
      exact .cons (RV.rn r h1) (RVs.rns t h2)
    · cases h
end
theorem RT.rn {d : D} {v : V} {k : NestedKey} (r : RT G e H d v) (h : toN d = some k) : RN G H k v := by
  cases r with
  | of r => exact r.rn h
  | lst _ _ => cases h
  | dic _ _ _ => cases h
end
def dget : List NestedKey → List D → NestedKey → Option D
  | k :: ks, v :: vs, x => if k = x then some v else dget ks vs x
  | _, _, _ => none
def inG : D → D → Option D
  | x, .lst ys => if sh x && sh (.lst ys) then some (.bl (ys.any fun z => eqD z x)) else none
  | x, .tup ys => if sh x && sh (.tup ys) then some (.bl (ys.any fun z => eqD z x)) else none
  | .str x, .str y => match x.cps.toList with
    | [c] => some (.bl (decide (c ∈ y.cps.toList)))
    | _ => none
  | .int i, .dic false ks vs => some (.bl (decide (NestedKey.num i ∈ ks)))
  | .str x, .dic false ks vs => some (.bl (decide (NestedKey.text x ∈ ks)))
  | .tup xs, .dic true ks vs => match toN (.tup xs) with
    | some k => if k.depth ≤ 8 then some (.bl (decide (k ∈ ks))) else none
    | none => none
  | _, _ => none
def notInG : D → D → Option D
  | x, .lst ys => if sh x && sh (.lst ys) then some (.bl (!(ys.any fun z => eqD z x))) else none
  | x, .tup ys => if sh x && sh (.tup ys) then some (.bl (!(ys.any fun z => eqD z x))) else none
  | .str x, .str y => match x.cps.toList with
    | [c] => some (.bl (!decide (c ∈ y.cps.toList)))
    | _ => none
  | .int i, .dic false ks vs => some (.bl (!decide (NestedKey.num i ∈ ks)))
  | .str x, .dic false ks vs => some (.bl (!decide (NestedKey.text x ∈ ks)))
  | .tup xs, .dic true ks vs => match toN (.tup xs) with
    | some k => if k.depth ≤ 8 then some (.bl (!decide (k ∈ ks))) else none
    | none => none
  | _, _ => none
theorem Ps_any (x : D) : ∀ ys : List D, ((Ps ys).any fun z => PyData.eqv z x.P) = ys.any fun z => eqD z x
  | [] => rfl
  | y :: ys => by simp only [Ps, List.any_cons, Ps_any x ys]; rfl

section
variable {X : Cx} {T : List (Addr × Str)} {pins : List (Addr × Obj)} {s : Shared} {σ : St} {H : Hp}
mutual
theorem RN.nested (I : Inv X pins σ H s) : ∀ (k : NestedKey) (v : V) (u : Value), RN (gOf X T) H k v → RelV v u → NestedIs s.heap k u
  | .none, _, _, h, r => by cases h; cases r; exact .none
  | .num i, _, _, h, r => by
    cases h with
    | bl b => cases r; exact .bool rfl
    | num i => obtain ⟨t, rfl⟩ := r; exact .int i t
  | .text x, _, _, h, r => by cases h; obtain ⟨t, rfl⟩ := r; exact .text x t
  | .tup ks, _, _, h, r => by
    cases h with
    | tup h q =>
      cases r
      obtain ⟨its, rv, ⟨o, ho, hc, n, hd⟩, _⟩ := I.tuple h
      exact .tup ho hc hd (RNs.nested I ks _ _ q rv)
theorem RNs.nested (I : Inv X pins σ H s) : ∀ (ks : List NestedKey) (vs : List V) (us : List Value), RNs (gOf X T) H ks vs → Vals vs us → NestedAll s.heap ks us
  | [], _, _, h, r => by cases h; cases r; exact .nil
  | k :: ks, _, _, h, r => by
    cases h with
    | cons h1 h2 => cases r with
      | cons r1 r2 => exact .cons (RN.nested I k _ _ h1 r1) (RNs.nested I ks _ _ h2 r2)
end
abbrev PT3 : List (NestedKey × Addr × V) → List (NestedKey × Addr × Value) → Prop :=
  Paired (fun (p : NestedKey × Addr × V) (q : NestedKey × Addr × Value) => p.1 = q.1 ∧ p.2.1 = q.2.1 ∧ RelV p.2.2 q.2.2)
theorem dicN_at {a : Addr} {ts : List (NestedKey × Addr × V)} (I : Inv X pins σ H s) (h : H a = some (dicN X.prog X.w a ts)) (hk : ∀ t ∈ ts, RN (gOf X T) H t.1 (.ref t.2.1) ∧ t.1.depth ≤ 8) :
    ts.length ≤ sizeLine ∧ (a == sysModules) = false ∧ ∃ us, PT3 ts us ∧ s.heap.DictOfH (nestedKind X.prog X.w) a us := by
  obtain ⟨⟨h1, h2, us, h3, o, es, ep, h4, h5, h6, h7, h8⟩, _⟩ := (show ObjOk X.prog X.w H s.heap a (dicN X.prog X.w a ts) from I.hok a _ h)
  refine ⟨h1, h2, us, h3, o, es, ep, h4, h5, h6, h7, ?_, h8⟩
  have all : ∀ {l : List (NestedKey × Addr × V)} {m : List (NestedKey × Addr × Value)}, PT3 l m → (∀ t ∈ l, RN (gOf X T) H t.1 (.ref t.2.1) ∧ t.1.depth ≤ 8) → ∀ x ∈ m, (nestedKind X.prog X.w).is s.heap x.1 x.2.1 := by
    intro l m q
    induction q with
    | nil => intro _ x hx; cases hx
    | @cons p q ps qs hq t ih =>
      intro hl x hx
      rcases List.mem_cons.mp hx with e | hx
      · subst e
        obtain ⟨r, d⟩ := hl p List.mem_cons_self
        rw [← hq.1, ← hq.2.1]
        exact ⟨RN.nested I _ _ _ r rfl, d⟩
      · exact ih (fun t ht => hl t (List.mem_cons_of_mem _ ht)) x hx
  exact all h3 hk
/-- what a dict of tuple keys has at a key -/
theorem atKey_get {G : Gc} {e : List Addr} {H : Hp} (k : NestedKey) : ∀ {ts : List (NestedKey × Addr × V)} {us : List (NestedKey × Addr × Value)} {ds : List D}, PT3 ts us → RVs G e H ds (ts.map (·.2.2)) →
    (∀ d, dget (ts.map (·.1)) ds k = some d → ∃ p v, atKey us k = some p ∧ RelV v p.2 ∧ RV G e H d v) ∧ (atKey us k).isSome = decide (k ∈ ts.map (·.1))
  | _, _, ds, .nil, r => by
    cases r
    exact ⟨fun d h => (by simp [dget] at h), by simp [atKey]⟩
  | p :: ts, q :: us, ds, .cons h t, r => by
    cases r with
    | @cons d v ds vs r1 r2 =>
      obtain ⟨i1, i2⟩ := atKey_get k t r2
      by_cases e1 : p.1 = k
      · have e2 : q.1 = k := h.1.symm.trans e1
        refine ⟨fun d' hd => ?_, ?_⟩
        · simp only [List.map_cons, dget, e1, if_true, Option.some.injEq] at hd
          subst hd
          exact ⟨q.2, p.2.2, by simp [atKey, e2], h.2.2, r1⟩
        · simp [atKey, e2, e1]
      · have e2 : ¬ q.1 = k := fun z => e1 (h.1.trans z)
        have e3 : atKey (q :: us) k = atKey us k := by simp [atKey, List.find?_cons, e2]
        refine ⟨fun d' hd => ?_, ?_⟩
        · simp only [List.map_cons, dget, e1, if_false] at hd
          rw [e3]
          exact i1 d' hd
        · rw [e3, i2]
          have : ¬ k = p.1 := fun z => e1 z.symm
          simp [this]
theorem kN_inj {a b : Key} (h : kN a = kN b) : a = b := by
  cases a <;> cases b <;> cases h <;> rfl
theorem valV_get {G : Gc} {e : List Addr} {H : Hp} (k : Key) : ∀ {kk : List Key} {xs : List V} {ds : List D}, kk.length = xs.length → RVs G e H ds xs →
    (∀ d, dget (kk.map kN) ds (kN k) = some d → ∃ v, valV (kk.zip xs) k = some v ∧ RV G e H d v) ∧ (valV (kk.zip xs) k).isSome = decide (kN k ∈ kk.map kN)
  | [], _, ds, _, r => ⟨fun d h => (by simp [dget] at h), by simp [valV]⟩
  | j :: kk, _, ds, hl, r => by
    cases r with
    | nil => simp at hl
    | @cons d v ds vs r1 r2 =>
      obtain ⟨i1, i2⟩ := valV_get k (kk := kk) (by simpa using hl) r2
      by_cases e1 : j = k
      · subst e1
        refine ⟨fun d' hd => ?_, ?_⟩
        · simp only [List.map_cons, dget, if_true, Option.some.injEq] at hd
          subst hd
          exact ⟨v, by rw [List.zip_cons_cons, valV_pos rfl], r1⟩
        · rw [List.zip_cons_cons, valV_pos rfl]; simp
      · have e2 : ¬ kN j = kN k := fun z => e1 (kN_inj z)
        refine ⟨fun d' hd => ?_, ?_⟩
        · simp only [List.map_cons, dget, e2, if_false] at hd
          rw [List.zip_cons_cons, valV_neg e1]
          exact i1 d' hd
        · rw [List.zip_cons_cons, valV_neg e1, i2]
          have : ¬ kN k = kN j := fun z => e2 z.symm
          simp [this]

theorem o_in (hu : X.A.units + 65 < cLine) : OpR X (compareOp .In) (rG (gOf X T) inG) := by
  intro pins s σ H vx vy v u Q I rx ry ⟨x, y, z, e, m, hg, tr, r1, r2, q⟩
  unfold inG at hg
  split at hg
  · rename_i ys
    split at hg
    · rename_i hs
      cases hg
      have hs := Bool.and_eq_true_iff.mp hs
      exact op_inD hu pins s σ H _ _ v u Q I rx ry ⟨x.P, Ps ys, r1.dp hs.1, r2.dp hs.2, hs.1, hs.2, by rw [Ps_any]; exact q _ _ Ext.refl (noKeep rfl) (.bl _)⟩
    · cases hg
  · rename_i ys
    split at hg
    · rename_i hs
      cases hg
      have hs := Bool.and_eq_true_iff.mp hs
      obtain ⟨as, q1⟩ := Dp.reads I _ _ v (r1.dp hs.1) rx
      obtain ⟨bs, q2⟩ := Dp.reads I _ _ u (r2.dp hs.2) ry
      exact SeqAt.in_tuple_reads q2 q1 (SeqAt.canLay_of_shaped hs.2) (SeqAt.canLay_of_shaped hs.1) (room_in_shaped hs.1 hu) ⟨.bl _, H, I, rfl, by rw [Ps_any]; exact q _ _ Ext.refl (noKeep rfl) (.bl _)⟩
    · cases hg
  · rename_i x y
    split at hg
    · rename_i c hc
      cases hg
      cases r1.str
      cases r2.str
      refine op_in_sign pins s σ H _ _ v u Q I rx ry ⟨c, y, ?_, rfl, q _ _ Ext.refl (noKeep rfl) (.bl _)⟩
      rw [show x = ⟨#[c]⟩ from by cases x; simp only at hc; congr; simpa using congrArg List.toArray hc]
    · cases hg
  · rename_i i ks vs
    cases hg
    cases r1.int
    obtain ⟨a, o, xs, rfl, h1, h2, h3⟩ := r2.dic'
    cases h2 with
    | k kk xs hl =>
      cases ry
      exact d_in (by omega) I (DGet.k (k := .inl i) h1) rx fun s' I' => ⟨.bl _, H, I', rfl, by
        rw [(valV_get (.inl i) hl h3).2]
        exact q _ _ Ext.refl (noKeep rfl) (.bl _)⟩
  · rename_i i ks vs
    cases hg
    cases r1.str
    obtain ⟨a, o, xs, rfl, h1, h2, h3⟩ := r2.dic'
    cases h2 with
    | k kk xs hl =>
      cases ry
      exact d_in (by omega) I (DGet.k (k := .inr i) h1) rx fun s' I' => ⟨.bl _, H, I', rfl, by
        rw [(valV_get (.inr i) hl h3).2]
        exact q _ _ Ext.refl (noKeep rfl) (.bl _)⟩
  · rename_i ds ks vs
    split at hg
    · rename_i k hk
      split at hg
      · rename_i hd
        cases hg
        obtain ⟨a, o, xs, rfl, h1, h2, h3⟩ := r2.dic'
        obtain ⟨p, ps, rfl, t1, t2⟩ := r1.tup
        cases h2 with
        | n ts hts =>
          cases ry
          cases rx
          obtain ⟨z1, z2, us, z3, z4⟩ := dicN_at I h1 hts
          refine wpAny_in_heap (knd := nestedKind X.prog X.w) (k := k) (show X.A.units + 1 + 8 < cLine by omega) ⟨RN.nested I _ _ _ (r1.rn hk) rfl, hd⟩ z2 z4 ?_
          rw [(atKey_get k z3 h3).2]
          exact ⟨.bl _, H, I.tok _, rfl, q _ _ Ext.refl (noKeep rfl) (.bl _)⟩
      · cases hg
    · cases hg
  · cases hg
theorem o_notIn (hu : X.A.units + 65 < cLine) : OpR X (compareOp .NotIn) (rG (gOf X T) notInG) := by
  intro pins s σ H vx vy v u Q I rx ry ⟨x, y, z, e, m, hg, tr, r1, r2, q⟩
  unfold notInG at hg
  split at hg
  · rename_i ys
    split at hg
    · rename_i hs
      cases hg
      have hs := Bool.and_eq_true_iff.mp hs
      exact op_notInD hu pins s σ H _ _ v u Q I rx ry ⟨x.P, Ps ys, r1.dp hs.1, r2.dp hs.2, hs.1, hs.2, by rw [Ps_any]; exact q _ _ Ext.refl (noKeep rfl) (.bl _)⟩
    · cases hg
  · rename_i ys
    split at hg
    · rename_i hs
      cases hg
      have hs := Bool.and_eq_true_iff.mp hs
      obtain ⟨as, q1⟩ := Dp.reads I _ _ v (r1.dp hs.1) rx
      obtain ⟨bs, q2⟩ := Dp.reads I _ _ u (r2.dp hs.2) ry
      exact SeqAt.notIn_tuple_reads q2 q1 (SeqAt.canLay_of_shaped hs.2) (SeqAt.canLay_of_shaped hs.1) (room_in_shaped hs.1 hu) ⟨.bl _, H, I, rfl, by rw [Ps_any]; exact q _ _ Ext.refl (noKeep rfl) (.bl _)⟩
    · cases hg
  · rename_i x y
    split at hg
    · rename_i c hc
      cases hg
      cases r1.str
      cases r2.str
      refine op_notIn_sign pins s σ H _ _ v u Q I rx ry ⟨c, y, ?_, rfl, q _ _ Ext.refl (noKeep rfl) (.bl _)⟩
      rw [show x = ⟨#[c]⟩ from by cases x; simp only at hc; congr; simpa using congrArg List.toArray hc]
    · cases hg
  · rename_i i ks vs
    cases hg
    cases r1.int
    obtain ⟨a, o, xs, rfl, h1, h2, h3⟩ := r2.dic'
    cases h2 with
    | k kk xs hl =>
      cases ry
      exact d_notIn (by omega) I (DGet.k (k := .inl i) h1) rx fun s' I' => ⟨.bl _, H, I', rfl, by
        rw [(valV_get (.inl i) hl h3).2]
        exact q _ _ Ext.refl (noKeep rfl) (.bl _)⟩
  · rename_i i ks vs
    cases hg
    cases r1.str
    obtain ⟨a, o, xs, rfl, h1, h2, h3⟩ := r2.dic'
    cases h2 with
    | k kk xs hl =>
      cases ry
      exact d_notIn (by omega) I (DGet.k (k := .inr i) h1) rx fun s' I' => ⟨.bl _, H, I', rfl, by
        rw [(valV_get (.inr i) hl h3).2]
        exact q _ _ Ext.refl (noKeep rfl) (.bl _)⟩
  · rename_i ds ks vs
    split at hg
    · rename_i k hk
      split at hg
      · rename_i hd
        cases hg
        obtain ⟨a, o, xs, rfl, h1, h2, h3⟩ := r2.dic'
        obtain ⟨p, ps, rfl, t1, t2⟩ := r1.tup
        cases h2 with
        | n ts hts =>
          cases ry
          cases rx
          obtain ⟨z1, z2, us, z3, z4⟩ := dicN_at I h1 hts
          refine wpAny_notIn_heap (knd := nestedKind X.prog X.w) (k := k) (show X.A.units + 1 + 8 < cLine by omega) ⟨RN.nested I _ _ _ (r1.rn hk) rfl, hd⟩ z2 z4 ?_
          rw [(atKey_get k z3 h3).2]
          exact ⟨.bl _, H, I.tok _, rfl, q _ _ Ext.refl (noKeep rfl) (.bl _)⟩
      · cases hg
    · cases hg
  · cases hg
end
end Mir

/-! Mir5: subscripts, slices, and, or, not, if-else, chains. -/
namespace Mir
open PySem PySem.Spec PyProof.Rows L2

def ixG : D → D → Option D
  | .lst xs, .int i => atI xs i
  | .tup xs, .int i => atI xs i
  | .str z, .int i => if z.length ≤ big then (atI z.cps.toList i).map fun c => .str ⟨#[c]⟩ else none
  | .dic false ks vs, .int i => dget ks vs (.num i)
  | .dic false ks vs, .str x => dget ks vs (.text x)
  | .dic true ks vs, .tup xs => match toN (.tup xs) with
    | some k => if k.depth ≤ 8 then dget ks vs k else none
    | none => none
  | _, _ => none
theorem RVs.atI {G : Gc} {e : List Addr} {H : Hp} {ds : List D} {vs : List V} {i : Int} {d : D} (r : RVs G e H ds vs) (h : L2.atI ds i = some d) : ∃ v, L2.atI vs i = some v ∧ RV G e H d v := by
  unfold L2.atI at h ⊢
  rw [← r.len]
  cases q : ixN ds.length i with
  | none => rw [q] at h; cases h
  | some j =>
    rw [q] at h
    simp only [Option.bind_some] at h ⊢
    exact r.get h
section
variable {X : Cx} {T : List (Addr × Str)} {W : WX}
theorem o_ix (hu : X.A.units + 65 < cLine) : IxR X (rG (gOf X T) ixG) := by
  intro value slice pins s σ H vx vy v u Q I rx ry ⟨x, y, z, e, m, hg, tr, r1, r2, q⟩ hs
  unfold ixG at hg
  split at hg
  · rename_i xs i
    cases r2.int
    obtain ⟨a, vs, rfl, h1, h2⟩ := r1.lst'
    obtain ⟨w, h3, h4⟩ := h2.atI hg
    exact ix_list value slice pins s σ H _ _ v u Q I rx ry ⟨a, vs, i, w, rfl, rfl, .of h1, h3, q _ _ Ext.refl (noKeep rfl) h4⟩ hs
  · rename_i xs i
    cases r2.int
    obtain ⟨a, vs, rfl, h1, h2⟩ := r1.tup
    obtain ⟨w, h3, h4⟩ := h2.atI hg
    exact ix_tup value slice pins s σ H _ _ v u Q I rx ry ⟨a, vs, i, w, rfl, rfl, h1, h3, q _ _ Ext.refl (noKeep rfl) h4⟩ hs
  · rename_i xs i
    split at hg
    · rename_i hl
      cases r2.int
      cases r1.str
      simp only [Option.map_eq_some_iff] at hg
      obtain ⟨c, hc, rfl⟩ := hg
      exact ix_str value slice pins s σ H _ _ v u Q I rx ry ⟨xs, i, c, rfl, rfl, big_ok hl, hc, q _ _ Ext.refl (noKeep rfl) (.str _)⟩ hs
    · cases hg
  · rename_i ks ds i
    cases r2.int
    obtain ⟨a, o, xs, rfl, h1, h2, h3⟩ := r1.dic'
    cases h2 with
    | k kk xs hl =>
      cases rx
      obtain ⟨w, h4, h5⟩ := (valV_get (.inl i) hl h3).1 z hg
      have g : DGet H a (kV (.inl i)) (some w) := h4 ▸ DGet.k (k := .inl i) h1
      exact tail_any (dict_typeIs I g) PySem.F.slot_dict_getitem.lookup (d_getItem (by omega) I g ry fun w' s' I' r' => ⟨w, H, I', r', q _ _ Ext.refl (noKeep rfl) h5⟩) hs
  · rename_i ks ds i
    cases r2.str
    obtain ⟨a, o, xs, rfl, h1, h2, h3⟩ := r1.dic'
    cases h2 with
    | k kk xs hl =>
      cases rx
      obtain ⟨w, h4, h5⟩ := (valV_get (.inr i) hl h3).1 z hg
      have g : DGet H a (kV (.inr i)) (some w) := h4 ▸ DGet.k (k := .inr i) h1
      exact tail_any (dict_typeIs I g) PySem.F.slot_dict_getitem.lookup (d_getItem (by omega) I g ry fun w' s' I' r' => ⟨w, H, I', r', q _ _ Ext.refl (noKeep rfl) h5⟩) hs
  · rename_i ks ds xs
    split at hg
    · rename_i k hk
      split at hg
      · rename_i hd
        obtain ⟨a, o, xs, rfl, h1, h2, h3⟩ := r1.dic'
        obtain ⟨p, ps, rfl, t1, t2⟩ := r2.tup
        cases h2 with
        | n ts hts =>
          cases ry
          cases rx
          obtain ⟨z1, z2, us, z3, z4⟩ := dicN_at I h1 hts
          obtain ⟨p', w, h4, h5, h6⟩ := (atKey_get k z3 h3).1 z hg
          exact tail_any z4.typeIs PySem.F.slot_dict_getitem.lookup (wpAny_getItem_heap (knd := nestedKind X.prog X.w) (k := k) (show X.A.units + 1 + 8 < cLine by omega) ⟨RN.nested I _ _ _ (r2.rn hk) rfl, hd⟩ z4 h4
            ⟨w, H, I.tok _, h5, q _ _ Ext.refl (noKeep rfl) h6⟩) hs
      · cases hg
    · cases hg
  · cases hg
theorem e_ix {a b : Expr} {f1 f2 : ME} {pos : Pos} (hu : X.A.units + 65 < cLine) (ha : PE X a (tE (gOf X T) W f1)) (hb : PE X b (tE (gOf X T) W f2)) (hs : PlainIx b := by intro _ _; rfl) : PE X (.Subscript a b pos) (tE (gOf X T) W (op2M ixG f1 f2)) :=
  pe_mono (pe_ix (o_ix hu) ha hb hs) fun σ H Q h => op2_red (a := fun _ _ _ => True) (b := fun _ _ _ => True) h

/-! ### slices -/
def cutL {α : Type} (xs : List α) (lo hi : Option Int) : List α := (xs.drop (HT.sIx xs.length 0 lo)).take (HT.sIx xs.length xs.length hi - HT.sIx xs.length 0 lo)
def slG : D → Option Int → Option Int → Option D
  | .lst xs, lo, hi => some (.lst (cutL xs lo hi))
  | .tup xs, lo, hi => some (.tup (cutL xs lo hi))
  | .str z, lo, hi => if z.length ≤ big then some (.str (cutS z lo hi)) else none
  | _, _, _ => none
abbrev MO := Env → Sto → O (Option Int)
def noP : MO := fun _ S => .ok none S
def someP (f : ME) : MO := fun ρ S => (f ρ S).bind fun u S1 => match u with
  | .d (.int i) => .ok (some i) S1
  | _ => .un
def slM (f : ME) (lo hi : MO) : ME := fun ρ S => (f ρ S).bind fun u S1 => (lo ρ S1).bind fun l S2 => (hi ρ S2).bind fun h S3 =>
  match rd S3 u with
  | some x => match slG x l h with
    | some z => .ok (.d z) S3
    | none => .un
  | none => .un
def tO (G : Gc) (W : WX) (f : MO) : TO := fun σ H Q => ∃ x m ρ S, Rp G x m H ρ S σ ∧ Post G W x m σ H (f ρ S) fun o _ _ H' => Q o H'
theorem po_mono {e : Option Expr} {t t' : TO} (h : PO X e t) (q : ∀ σ H Q, t' σ H Q → t σ H Q) : PO X e t' := ⟨fun pins s σ H Q I w => h.run pins s σ H Q I (q σ H Q w)⟩
theorem p_none : PO X none (tO (gOf X T) W noP) := po_mono po_none fun σ H Q h => by
  obtain ⟨x, m, ρ, S, p, h⟩ := h
  exact h m H Ext.refl p.sto
theorem p_some {e : Expr} {f : ME} (h : PE X e (tE (gOf X T) W f)) : PO X (some e) (tO (gOf X T) W (someP f)) := po_mono (po_some h) fun σ H Q h => by
  obtain ⟨x, m, ρ, S, p, h⟩ := h
  refine ⟨x, m, ρ, S, p, (Post.bind h).mono fun u S1 m1 H1 E1 R1 ⟨_, _, h1⟩ v rv => ?_⟩
  split at h1
  · cases rv with
    | d r => cases r; exact ⟨_, rfl, h1 m1 H1 Ext.refl R1⟩
  · exact h1.elim
theorem RVs.cut {G : Gc} {e : List Addr} {H : Hp} {ds : List D} {vs : List V} (r : RVs G e H ds vs) (lo hi : Option Int) : RVs G e H (cutL ds lo hi) (cutV vs lo hi) := by
  unfold cutL cutV
  rw [r.len]
  exact (r.drop _).take _
theorem cut_whole {α : Type} {xs : List α} {lo hi : Option Int} (h : HT.sIx xs.length 0 lo = 0 ∧ HT.sIx xs.length xs.length hi = xs.length) : cutL xs lo hi = xs := by
  unfold cutL
  rw [h.1, h.2]
  simp
def rSl (G : Gc) : V → Option Int → Option Int → Hp → VK → Prop := fun vx lo hi H Q => ∃ x z e m, slG x lo hi = some z ∧ (∀ b ∈ e, ∃ o, H b = some o) ∧ RT G e H x vx ∧
  ∀ H' w, Ext G m H m H' → (∀ a ∈ m, H a ≠ none → H' a = H a) → RV G e H' z w → Q w H'
theorem o_sl : SlR X (rSl (gOf X T)) := by
  intro pins s σ H vx v vl vu lo hi sl Q I rx hs pl pu ⟨x, z, e, m, hg, tr, r1, q⟩
  unfold slG at hg
  split at hg
  · cases hg
    obtain ⟨a, xs, rfl, h1, h2⟩ := r1.lst'
    exact sl_list pins s σ H _ v vl vu _ _ sl Q I rx hs pl pu ⟨a, xs, rfl, .of h1, fun p np => q _ _ (Ext.new np) (newKeep np) (RV.newLst (h2.cut _ _) np tr)⟩
  · cases hg
    obtain ⟨a, xs, rfl, h1, h2⟩ := r1.tup
    refine sl_tupA pins s σ H _ v vl vu _ _ sl Q I rx hs pl pu ⟨a, xs, rfl, h1, fun hw => q _ _ Ext.refl (noKeep rfl) ?_, fun _ p np => q _ _ (Ext.new np) (newKeep np) (RV.newTup (h2.cut _ _) np tr)⟩
    rw [← h2.len] at hw
    rw [cut_whole hw]
    exact .tup h1 h2
  · split at hg
    · rename_i hl
      cases hg
      cases r1.str
      exact sl_str pins s σ H _ v vl vu _ _ sl Q I rx hs pl pu ⟨_, rfl, big_ok hl, q _ _ Ext.refl (noKeep rfl) (.str _)⟩
    · cases hg
  · cases hg
theorem e_sl {a : Expr} {lo hi : Option Expr} {f : ME} {fl fh : MO} {pos p2 : Pos} (ha : PE X a (tE (gOf X T) W f)) (hl : PO X lo (tO (gOf X T) W fl)) (hh : PO X hi (tO (gOf X T) W fh)) : PE X (.Subscript a (.Slice lo hi none p2) pos) (tE (gOf X T) W (slM f fl fh)) :=
  pe_mono (pe_slice (o_sl (T := T)) ha hl hh) fun σ H Q h => by
    obtain ⟨x, m, ρ, S, p, h⟩ := h
    refine ⟨x, m, ρ, S, p, (Post.bind h).mono fun u S1 m1 H1 E1 R1 ⟨_, _, h1⟩ v rv => ?_⟩
    refine ⟨x, m1, ρ, S1, p.ext E1 R1, (Post.bind h1).mono fun l S2 m2 H2 E2 R2 ⟨_, _, h2⟩ => ?_⟩
    have p2 := (p.ext E1 R1).ext E2 R2
    refine ⟨x, m2, ρ, S2, p2, (Post.bind h2).mono fun r S3 m3 H3 E3 R3 ⟨_, _, h3⟩ => ?_⟩
    have p3 := p2.ext E3 R3
    split at h3
    · rename_i dx q1
      split at h3
      · rename_i z q3
        exact ⟨dx, z, x ++ m3, m3, q3, p3.trk, ((rv.ext E2).ext E3).rt R3 q1, fun H' w' E4 hs r => h3 m3 H' E4 (R3.stay E4 fun a ha => hs a ha (by obtain ⟨o, q⟩ := R3.live ha; rw [q]; simp)) w' (.d r)⟩
      · exact h3.elim
    · exact h3.elim

/-! ### and, or, not -/
variable {a b c : Expr} {rest : List Expr} {f g k : ME} {tf tg : MT} {pos : Pos}
def andT (f g : MT) : MT := fun ρ S => (f ρ S).bind fun b S1 => if b = true then g ρ S1 else .ok false S1
def orT (f g : MT) : MT := fun ρ S => (f ρ S).bind fun b S1 => if b = true then .ok true S1 else g ρ S1
def notT (f : MT) : MT := fun ρ S => (f ρ S).bind fun b S1 => .ok (!b) S1
def andM (f g : ME) : ME := fun ρ S => (f ρ S).bind fun u S1 => match u with
  | .d (.bl true) => g ρ S1
  | .d (.bl false) => .ok (.d (.bl false)) S1
  | _ => .un
def orM (f g : ME) : ME := fun ρ S => (f ρ S).bind fun u S1 => match u with
  | .d (.bl true) => .ok (.d (.bl true)) S1
  | .d (.bl false) => g ρ S1
  | _ => .un
def notM (f : ME) : ME := fun ρ S => (f ρ S).bind fun u S1 => match u with
  | .d (.bl b) => .ok (.d (.bl (!b))) S1
  | _ => .un
def iteM (t : MT) (f g : ME) : ME := fun ρ S => (t ρ S).bind fun b S1 => if b = true then f ρ S1 else g ρ S1
theorem pw_mono {e : Expr} {t t' : TT} (h : PW X e t) (q : ∀ σ H Q, t' σ H Q → t σ H Q) : PW X e t' := ⟨fun wh pins s σ H Q I w => h.run wh pins s σ H Q I (q σ H Q w)⟩
theorem w_and1 (ha : PT X a (tT (gOf X T) W tf)) : PW X (.BoolOp .And [a] pos) (tT (gOf X T) W tf) := pw_and1 ha
theorem w_or1 (ha : PT X a (tT (gOf X T) W tf)) : PW X (.BoolOp .Or [a] pos) (tT (gOf X T) W tf) := pw_or1 ha
theorem w_and (ha : PT X a (tT (gOf X T) W tf)) (hb : PW X (.BoolOp .And (b :: rest) pos) (tT (gOf X T) W tg)) : PW X (.BoolOp .And (a :: b :: rest) pos) (tT (gOf X T) W (andT tf tg)) := pw_mono (pw_and ha hb) fun σ H Q h => by
  obtain ⟨x, m, ρ, S, p, h⟩ := h
  refine ⟨x, m, ρ, S, p, (Post.bind h).mono fun u S1 m1 H1 E1 R1 ⟨_, _, h1⟩ => ?_⟩
  cases u with
  | true => exact iteT ⟨x, m1, ρ, S1, p.ext E1 R1, by rw [if_pos rfl] at h1; exact h1⟩
  | false => exact iteF (by rw [if_neg Bool.false_ne_true] at h1; exact h1 m1 H1 Ext.refl R1)
theorem w_or (ha : PT X a (tT (gOf X T) W tf)) (hb : PW X (.BoolOp .Or (b :: rest) pos) (tT (gOf X T) W tg)) : PW X (.BoolOp .Or (a :: b :: rest) pos) (tT (gOf X T) W (orT tf tg)) := pw_mono (pw_or ha hb) fun σ H Q h => by
  obtain ⟨x, m, ρ, S, p, h⟩ := h
  refine ⟨x, m, ρ, S, p, (Post.bind h).mono fun u S1 m1 H1 E1 R1 ⟨_, _, h1⟩ => ?_⟩
  cases u with
  | true => exact iteT (by rw [if_pos rfl] at h1; exact h1 m1 H1 Ext.refl R1)
  | false => exact iteF ⟨x, m1, ρ, S1, p.ext E1 R1, by rw [if_neg Bool.false_ne_true] at h1; exact h1⟩
theorem t_not (ha : PT X a (tT (gOf X T) W tf)) : PT X (.UnaryOp .Not a pos) (tT (gOf X T) W (notT tf)) := pt_mono (pt_not ha) fun σ H Q h => by
  obtain ⟨x, m, ρ, S, p, h⟩ := h
  exact ⟨x, m, ρ, S, p, (Post.bind h).mono fun u S1 m1 H1 E1 R1 ⟨_, _, h1⟩ => h1 m1 H1 Ext.refl R1⟩
theorem e_one {op} (h : PE X a (tE (gOf X T) W f)) : PE X (.BoolOp op [a] pos) (tE (gOf X T) W f) := pe_one h
theorem RU.bl {G : Gc} {e m : List Addr} {H : Hp} {b : Bool} {v : V} (r : RU G e m H (.d (.bl b)) v) : v = .bl b := by
  cases r with
  | d r => cases r; rfl
theorem e_and (ha : PE X a (tE (gOf X T) W f)) (hb : PE X (.BoolOp .And (b :: rest) pos) (tE (gOf X T) W g)) : PE X (.BoolOp .And (a :: b :: rest) pos) (tE (gOf X T) W (andM f g)) := pe_mono (pe_and ha hb) fun σ H Q h => by
  obtain ⟨x, m, ρ, S, p, h⟩ := h
  refine ⟨x, m, ρ, S, p, (Post.bind h).mono fun u S1 m1 H1 E1 R1 ⟨_, _, h1⟩ v rv => ?_⟩
  split at h1
  · exact ⟨true, rv.bl, iteT ⟨x, m1, ρ, S1, p.ext E1 R1, h1⟩⟩
  · exact ⟨false, rv.bl, iteF (h1 m1 H1 Ext.refl R1 _ (.d (.bl false)))⟩
  · exact h1.elim
theorem e_or (ha : PE X a (tE (gOf X T) W f)) (hb : PE X (.BoolOp .Or (b :: rest) pos) (tE (gOf X T) W g)) : PE X (.BoolOp .Or (a :: b :: rest) pos) (tE (gOf X T) W (orM f g)) := pe_mono (pe_or ha hb) fun σ H Q h => by
  obtain ⟨x, m, ρ, S, p, h⟩ := h
  refine ⟨x, m, ρ, S, p, (Post.bind h).mono fun u S1 m1 H1 E1 R1 ⟨_, _, h1⟩ v rv => ?_⟩
  split at h1
  · exact ⟨true, rv.bl, iteT (h1 m1 H1 Ext.refl R1 _ (.d (.bl true)))⟩
  · exact ⟨false, rv.bl, iteF ⟨x, m1, ρ, S1, p.ext E1 R1, h1⟩⟩
  · exact h1.elim
theorem e_not (ha : PE X a (tE (gOf X T) W f)) : PE X (.UnaryOp .Not a pos) (tE (gOf X T) W (notM f)) := pe_mono (pe_not ha) fun σ H Q h => by
  obtain ⟨x, m, ρ, S, p, h⟩ := h
  refine ⟨x, m, ρ, S, p, (Post.bind h).mono fun u S1 m1 H1 E1 R1 ⟨_, _, h1⟩ v rv => ?_⟩
  split at h1
  · exact ⟨_, rv.bl, h1 m1 H1 Ext.refl R1 _ (.d (.bl _))⟩
  · exact h1.elim
theorem e_if (hc : PT X c (tT (gOf X T) W tf)) (ha : PE X a (tE (gOf X T) W f)) (hb : PE X b (tE (gOf X T) W g)) : PE X (.IfExp c a b pos) (tE (gOf X T) W (iteM tf f g)) := pe_mono (pe_ifExp hc ha hb) fun σ H Q h => by
  obtain ⟨x, m, ρ, S, p, h⟩ := h
  refine ⟨x, m, ρ, S, p, (Post.bind h).mono fun u S1 m1 H1 E1 R1 ⟨_, _, h1⟩ => ?_⟩
  cases u with
  | true => exact iteT ⟨x, m1, ρ, S1, p.ext E1 R1, by rw [if_pos rfl] at h1; exact h1⟩
  | false => exact iteF ⟨x, m1, ρ, S1, p.ext E1 R1, by rw [if_neg Bool.false_ne_true] at h1; exact h1⟩
/-- a < b < c -/
def chM (o1 o2 : D → D → Option D) (f g k : ME) : ME := fun ρ S => (f ρ S).bind fun u S1 => (g ρ S1).bind fun w S2 => match rd S2 u, rd S2 w with
  | some x, some y => match o1 x y with
    | some (.bl true) => (k ρ S2).bind fun w' S3 => match rd S3 w, rd S3 w' with
      | some y', some z => match o2 y' z with
        | some t => .ok (.d t) S3
        | none => .un
      | _, _ => .un
    | some (.bl false) => .ok (.d (.bl false)) S2
    | _ => .un
  | _, _ => .un
theorem ch_red {o1 o2 : D → D → Option D} {σ : St} {H : Hp} {Q : VK} (h : tE (gOf X T) W (chM o1 o2 f g k) σ H Q) : tChain (rG (gOf X T) o1) (rG (gOf X T) o2) (tE (gOf X T) W f) (tE (gOf X T) W g) (tE (gOf X T) W k) σ H Q := by
  obtain ⟨x, m, ρ, S, p, h⟩ := h
  refine ⟨x, m, ρ, S, p, (Post.bind h).mono fun u S1 m1 H1 E1 R1 ⟨_, _, h1⟩ v rv => ?_⟩
  refine ⟨x, m1, ρ, S1, p.ext E1 R1, (Post.bind h1).mono fun w S2 m2 H2 E2 R2 ⟨_, _, h2⟩ v' rv' => ?_⟩
  have p2 := (p.ext E1 R1).ext E2 R2
  split at h2
  · rename_i dx dy q1 q2
    have go : ∀ H' (E3 : Ext (gOf X T) m2 H2 m2 H'), (∀ a ∈ m2, H2 a ≠ none → H' a = H2 a) → RS (gOf X T) (x ++ m2) m2 H' S2 := fun H' E3 hs => R2.stay E3 fun a ha => hs a ha (by obtain ⟨o, q⟩ := R2.live ha; rw [q]; simp)
    split at h2
    · rename_i q3
      refine ⟨dx, dy, _, x ++ m2, m2, q3, p2.trk, (rv.ext E2).rt R2 q1, rv'.rt R2 q2, fun H' w' E3 hs r => ?_⟩
      cases r
      have R3 := go H' E3 hs
      have p3 := p2.ext E3 R3
      refine ⟨true, rfl, iteT ⟨x, m2, ρ, S2, p3, (Post.bind (Post.shift E3 h2)).mono fun t S4 m4 H4 E4 R4 ⟨_, _, h4⟩ v'' rv'' => ?_⟩⟩
      have p4 := p3.ext E4 R4
      split at h4
      · rename_i dy' dz q4 q5
        split at h4
        · rename_i z q6
          exact ⟨dy', dz, z, x ++ m4, m4, q6, p4.trk, ((rv'.ext E3).ext E4).rt R4 q4, rv''.rt R4 q5, fun H5 w5 E5 hs5 r5 => h4 m4 H5 E5 (R4.stay E5 fun a ha => hs5 a ha (by obtain ⟨o, q⟩ := R4.live ha; rw [q]; simp)) w5 (.d r5)⟩
        · exact h4.elim
      · exact h4.elim
    · rename_i q3
      refine ⟨dx, dy, _, x ++ m2, m2, q3, p2.trk, (rv.ext E2).rt R2 q1, rv'.rt R2 q2, fun H' w' E3 hs r => ?_⟩
      cases r
      exact ⟨false, rfl, iteF (h2 m2 H' E3 (go H' E3 hs) _ (.d (.bl false)))⟩
    · exact h2.elim
  · exact h2.elim
theorem e_ch {op op' : CmpOp} {o1 o2 : D → D → Option D} (ho : OpR X (compareOp op) (rG (gOf X T) o1)) (ho' : OpR X (compareOp op') (rG (gOf X T) o2)) (ha : PE X a (tE (gOf X T) W f)) (hb : PE X b (tE (gOf X T) W g)) (hc : PE X c (tE (gOf X T) W k))
    (hm : lastMarks [op, op'] [b, c] = false := by with_unfolding_all rfl) : PE X (.Compare a [op, op'] [b, c] pos) (tE (gOf X T) W (chM o1 o2 f g k)) := pe_mono (pe_chain ho ho' ha hb hc hm) fun σ H Q h => ch_red h
theorem t_ch {op op' : CmpOp} {o1 o2 : D → D → Option D} (ho : OpR X (compareOp op) (rG (gOf X T) o1)) (ho' : OpR X (compareOp op') (rG (gOf X T) o2)) (ha : PE X a (tE (gOf X T) W f)) (hb : PE X b (tE (gOf X T) W g)) (hc : PE X c (tE (gOf X T) W k))
    (hm : lastMarks [op, op'] [b, c] = false := by with_unfolding_all rfl) : PT X (.Compare a [op, op'] [b, c] pos) (tT (gOf X T) W (tstM (chM o1 o2 f g k))) := pt_mono (pt_chain ho ho' ha hb hc hm) fun σ H Q h => ch_red (tst_red (t := fun _ _ _ => True) h)
end
end Mir

/-! Mir6: defs: what is promised of them, how they are called, how a body's mirror gives the promise. -/
namespace Mir
open PySem PySem.Spec PyProof.Rows L2

/-- what a def makes of its arguments -/
inductive R where
  | ok (d : D) | ex (e : Exn) | un
  deriving Inhabited
/-- .. and of one cell -/
inductive R1 where
  | ok (d : D) (c : Cell) | ex (e : Exn) (c : Cell) | un
  deriving Inhabited
/-- .. a new cell -/
inductive RNw where
  | ok (c : Cell) | ex (e : Exn) | un
  deriving Inhabited

def PR (G : Gc) (x m : List Addr) (H : Hp) (r : R) (Q : VK) (E : XK) : Prop := match r with
  | .ok d => ∀ H' v, Ext G m H m H' → RV G x H' d v → Q v H'
  | .ex e => ∀ H' cls d, Ext G m H m H' → RX G x H' e cls d → E cls d H'
  | .un => False
def sp0 (G : Gc) (n : Nat) (F : List D → R) : Sp := fun vs H Q E => vs.length = n ∧ ∃ x ds, (∀ b ∈ x, Nt H b) ∧ LamX.Tabs G.T H ∧ RVs G x H ds vs ∧ PR G x [] H (F ds) Q E
def sp1 (G : Gc) (n p : Nat) (F : List D → Cell → R1) : Sp := fun vs H Q E => vs.length = n ∧ ∃ x a c o ds, (∀ b ∈ x, Nt H b) ∧ LamX.Tabs G.T H ∧ a ∈ x ∧ vs[p]? = some (.ref a) ∧ H a = some o ∧ RC G x H a c o ∧ RVs G x H ds (vs.eraseIdx p) ∧
  match F ds c with
  | .ok d c' => ∀ H' v o', Ext G [a] H [a] H' → H' a = some o' → RC G x H' a c' o' → RV G x H' d v → Q v H'
  | .ex e c' => ∀ H' o' cls d, Ext G [a] H [a] H' → H' a = some o' → RC G x H' a c' o' → RX G x H' e cls d → E cls d H'
  | .un => False
def spN (G : Gc) (n : Nat) (F : List D → RNw) : Sp := fun vs H Q E => vs.length = n ∧ ∃ x ds, (∀ b ∈ x, Nt H b) ∧ LamX.Tabs G.T H ∧ RVs G x H ds vs ∧
  match F ds with
  | .ok c => ∀ H' p o, Ext G [] H [p] H' → H' p = some o → RC G (x ++ [p]) H' p c o → Q (.ref p) H'
  | .ex e => ∀ H' cls d, Ext G [] H [] H' → RX G x H' e cls d → E cls d H'
  | .un => False

/-- a def that is known by its name -/
structure Kn (G : Gc) (base : Heap) (k : Nat) (x : Str) (sp : Sp) : Prop where
  ex : ∃ f fd ps, FnOk G.P G.w G.K G.mg base (L2.CX G.P G.w) k f fd ps sp ∧ G.mg x = some (.ref f) ∧ PySem.W.keepIn G.K (.ref f) = true ∧ Binds G.K fd ps []
theorem Kn.mono {G : Gc} {base : Heap} {j k : Nat} {x : Str} {sp : Sp} (h : Kn G base j x sp) (hk : j ≤ k) : Kn G base k x sp := by
  obtain ⟨f, fd, ps, a, b, c, d⟩ := h.ex
  exact ⟨f, fd, ps, a.mono hk, b, c, d⟩

theorem nd_ix : ∀ {N : List Addr}, N.Nodup → ∀ {i j : Nat} {x : Addr}, N[i]? = some x → N[j]? = some x → i = j
  | [], _, _, _, _, h, _ => by simp at h
  | a :: N, hn, 0, 0, _, _, _ => rfl
  | a :: N, hn, 0, j + 1, x, h, h' => by
    simp at h h'
    subst h
    exact absurd (List.mem_of_getElem? h') (List.nodup_cons.mp hn).1
  | a :: N, hn, i + 1, 0, x, h, h' => by
    simp at h h'
    subst h'
    exact absurd (List.mem_of_getElem? h) (List.nodup_cons.mp hn).1
  | a :: N, hn, i + 1, j + 1, x, h, h' => by
    simp at h h'
    rw [nd_ix (List.nodup_cons.mp hn).2 h h']
/-! ### weakening -/
section
variable {G : Gc} {e e' x m m' : List Addr} {H H' : Hp}
theorem keep_sub (h : ∀ a, a ∈ e' → a ∈ e) : Keep G e H e' H where
  tup := fun _ _ q => q
  lst := fun _ _ q => q
  lsk := fun _ _ q n => ⟨q, fun z => n (h _ z)⟩
  dic := fun _ _ _ _ _ q n r => ⟨q, fun z => n (h _ z), r⟩
theorem Ext.of_nil (E : Ext G [] H [] H') : Ext G m H m H' :=
  ⟨fun b o h _ t => E.keep b o h (fun z => by cases z) t, E.tups, E.frzs, E.owns, E.live, ⟨[], by simp, fun _ z => by cases z⟩, E.tab⟩
theorem Ext.of_one {a : Addr} (E : Ext G [a] H [a] H') (ha : a ∈ m) : Ext G m H m H' :=
  ⟨fun b o h hb t => E.keep b o h (fun z => hb (by have : b = a := by simpa using z
                                                   rw [this]; exact ha)) t, E.tups, E.frzs, E.owns, E.live, ⟨[], by simp, fun _ z => by cases z⟩, E.tab⟩
theorem Ext.of_new {a : Addr} (E : Ext G [] H [a] H') (hn : ¬ Nt H a) : Ext G m H (m ++ [a]) H' :=
  ⟨fun b o h _ t => E.keep b o h (fun z => by cases z) t, E.tups, E.frzs, E.owns, E.live, ⟨[a], rfl, fun b hb => by
    have e1 : b = a := by simpa using hb
    rw [e1]
    exact hn⟩, E.tab⟩
/-- what was made is forgotten -/
theorem Ext.drop (E : Ext G m H m' H') : Ext G m H m H' := ⟨E.keep, E.tups, E.frzs, E.owns, E.live, ⟨[], by simp, fun _ z => by cases z⟩, E.tab⟩
theorem RC.notbl {a : Addr} {c : Cell} {o : HO} (r : RC G e H a c o) : ∀ ps, o ≠ .tbl ps := by
  cases r with
  | lst _ => intro ps z; cases z
  | dic q _ => exact q.notbl
  | ins _ _ _ => intro ps z; cases z
theorem RC.keep {a : Addr} {c : Cell} {o : HO} (k : Keep G e H e' H') (ho : ∀ b y, H b = some (.own y) → H' b = some (.own y)) (r : RC G e H a c o) : RC G e' H' a c o := by
  cases r with
  | lst q => exact .lst (q.keep k)
  | dic q1 q => exact .dic (q1.ext fun _ _ z => k.tup _ _ z) (q.keep k)
  | ins g1 g2 q => exact .ins g1 (ho _ _ g2) (q.keep k)
theorem RS.stay0 {S : Sto} (r : RS G (x ++ m) m H S) (E : Ext G [] H [] H') : RS G (x ++ m) m H' S :=
  r.stay E.of_nil fun a ha => by
    obtain ⟨i, hi⟩ := List.getElem?_of_mem ha
    have hl : i < S.length := by rw [← r.len]; exact (List.getElem?_eq_some_iff.mp hi).1
    obtain ⟨o, h1, h2⟩ := r.at' i a _ hi (List.getElem?_eq_getElem hl)
    rw [h1]
    exact E.keep _ _ h1 (fun z => by cases z) h2.notbl
/-- one cell has changed -/
theorem RS.one {S : Sto} {i : Nat} {a : Addr} {c' : Cell} {o' : HO} (r : RS G (x ++ m) m H S) (E : Ext G [a] H [a] H') (hi : m[i]? = some a) (ho : H' a = some o') (hc : RC G (x ++ m) H' a c' o') : RS G (x ++ m) m H' (S.set i c') := by
  have E' : Ext G m H m H' := E.of_one (List.mem_of_getElem? hi)
  refine ⟨by rw [List.length_set]; exact r.len, r.nd, r.ins, fun j b c h1 h2 => ?_⟩
  by_cases hj : i = j
  · subst hj
    rw [hi] at h1; cases h1
    have hl : i < S.length := by
      have := (List.getElem?_eq_some_iff.mp h2).1
      rw [List.length_set] at this; exact this
    rw [List.getElem?_set_self hl] at h2
    cases h2
    exact ⟨o', ho, hc⟩
  · rw [List.getElem?_set_ne hj] at h2
    obtain ⟨o, q1, q2⟩ := r.at' j b c h1 h2
    have hb : b ≠ a := fun z => hj (nd_ix r.nd hi (by rw [← z]; exact h1))
    exact ⟨o, E.keep _ _ q1 (fun z => hb (by simpa using z)) q2.notbl, q2.ext E'⟩
end

/-! ### the call of a def -/
def callM (F : List D → R) (fs : List ME) : ME := fun ρ S => (argsM fs ρ S).bind fun us S1 => match pures us with
  | some ds => match F ds with
    | .ok d => .ok (.d d) S1
    | .ex e => .ex e S1
    | .un => .un
  | none => .un
def callC (p : Nat) (F : List D → Cell → R1) (fs : List ME) : ME := fun ρ S => (argsM fs ρ S).bind fun us S1 => match us[p]?, pures (us.eraseIdx p) with
  | some (.c i), some ds => match S1[i]? with
    | some c => match F ds c with
      | .ok d c' => .ok (.d d) (S1.set i c')
      | .ex e c' => .ex e (S1.set i c')
      | .un => .un
    | none => .un
  | _, _ => .un
def callN (F : List D → RNw) (fs : List ME) : ME := fun ρ S => (argsM fs ρ S).bind fun us S1 => match pures us with
  | some ds => match F ds with
    | .ok c => .ok (.c S1.length) (S1 ++ [c])
    | .ex e => .ex e S1
    | .un => .un
  | none => .un
theorem RUs.get {G : Gc} {e m : List Addr} {H : Hp} : ∀ {ds : List U} {vs : List V} {i : Nat} {d : U}, RUs G e m H ds vs → ds[i]? = some d → ∃ v, vs[i]? = some v ∧ RU G e m H d v
  | _, _, _, _, .nil, h => by simp at h
  | _, _, 0, _, .cons r _, h => by simp at h; subst h; exact ⟨_, rfl, r⟩
  | _, _, i + 1, _, .cons _ t, h => by
    obtain ⟨v, h1, h2⟩ := RUs.get (i := i) t (by simpa using h)
    exact ⟨v, by simpa using h1, h2⟩
theorem RUs.erase {G : Gc} {e m : List Addr} {H : Hp} : ∀ {ds : List U} {vs : List V} (i : Nat), RUs G e m H ds vs → RUs G e m H (ds.eraseIdx i) (vs.eraseIdx i)
  | _, _, _, .nil => by simp; exact .nil
  | _, _, 0, .cons _ t => by simpa using t
  | _, _, i + 1, .cons r t => by
    simp only [List.eraseIdx_cons_succ]
    exact .cons r (RUs.erase i t)
section
variable {X : Cx} {T : List (Addr × Str)} {W : WX} {k n p : Nat} {x : Str} {e : Expr} {es : List Expr} {fs : List ME} {pos px : Pos}
theorem e_call {F : List D → R} (h : Kn (gOf X T) X.base k x (sp0 (gOf X T) n F)) (hr : Room k X.A) (tk : Takes X W) (hn : Nat.beq fs.length n = true := by rfl) (ha : PA X (e :: es) (tA (gOf X T) W (argsM fs))) (hg : Gl X x := by rfl)
    (hdb : (x == ("__debug__" : Str)) = false := by decide) (he : starEach (e :: es) X.env = (false, eval e X.env) :: starEach es X.env := by rfl) (hpl : (backTo pos (starEach es X.env)).any (·.1) = false := by rfl) :
    PE X (.Call (.Name x px) (e :: es) [] pos) (tE (gOf X T) W (callM F fs)) := by
  obtain ⟨f, fd, ps, h1, h2, h3, h4⟩ := h.ex
  refine pe_mono (pe_callS h1 hr hg h2 h3 h4 (fun σ => passAt tk σ) ha hdb he hpl) fun σ H Q h => ?_
  obtain ⟨y, m, ρ, S, q, h⟩ := h
  cases q1 : argsM fs ρ S with
  | un => simp only [callM, q1, O.bind] at h; exact h.elim
  | ex ee S' =>
    refine ⟨y, m, ρ, S, q, ?_⟩
    simp only [callM, q1, O.bind] at h ⊢
    exact h
  | ok us S' =>
    refine ⟨y, m, ρ, S, q, ?_⟩
    rw [q1]
    intro m1 H1 E1 R1 vs rvs
    have p1 := q.ext E1 R1
    simp only [callM, q1, O.bind] at h
    refine ⟨by rw [← RUs.length rvs, argsM_len q1]; exact Nat.eq_of_beq_eq_true hn, ?_⟩
    split at h
    · rename_i ds hds
      refine ⟨y ++ m1, ds, p1.trkN, p1.tab, RUs.pure rvs hds, ?_⟩
      unfold PR
      split
      · rename_i d hd
        rw [hd] at h
        exact fun H' v E2 rv => h m1 H' (E1.trans E2.of_nil) (R1.stay0 E2) v (.d rv)
      · rename_i ee hd
        rw [hd] at h
        exact fun H' cls d E2 rx => h m1 H' cls d (E1.trans E2.of_nil) (R1.stay0 E2) rx
      · rename_i hd
        rw [hd] at h
        exact h
    · exact h.elim
theorem e_callC {F : List D → Cell → R1} (h : Kn (gOf X T) X.base k x (sp1 (gOf X T) n p F)) (hr : Room k X.A) (tk : Takes X W) (hn : Nat.beq fs.length n = true := by rfl) (ha : PA X (e :: es) (tA (gOf X T) W (argsM fs))) (hg : Gl X x := by rfl)
    (hdb : (x == ("__debug__" : Str)) = false := by decide) (he : starEach (e :: es) X.env = (false, eval e X.env) :: starEach es X.env := by rfl) (hpl : (backTo pos (starEach es X.env)).any (·.1) = false := by rfl) :
    PE X (.Call (.Name x px) (e :: es) [] pos) (tE (gOf X T) W (callC p F fs)) := by
  obtain ⟨f, fd, ps, h1, h2, h3, h4⟩ := h.ex
  refine pe_mono (pe_callS h1 hr hg h2 h3 h4 (fun σ => passAt tk σ) ha hdb he hpl) fun σ H Q h => ?_
  obtain ⟨y, m, ρ, S, q, h⟩ := h
  cases q1 : argsM fs ρ S with
  | un => simp only [callC, q1, O.bind] at h; exact h.elim
  | ex ee S' =>
    refine ⟨y, m, ρ, S, q, ?_⟩
    simp only [callC, q1, O.bind] at h ⊢
    exact h
  | ok us S' =>
    refine ⟨y, m, ρ, S, q, ?_⟩
    rw [q1]
    intro m1 H1 E1 R1 vs rvs
    have p1 := q.ext E1 R1
    simp only [callC, q1, O.bind] at h
    refine ⟨by rw [← RUs.length rvs, argsM_len q1]; exact Nat.eq_of_beq_eq_true hn, ?_⟩
    split at h
    · rename_i i ds hp hds
      split at h
      · rename_i c hc
        obtain ⟨v, g1, g2⟩ := RUs.get rvs hp
        cases g2 with
        | @c _ a ha' =>
          obtain ⟨o, o1, o2⟩ := R1.at' i a c ha' hc
          have hm : a ∈ m1 := List.mem_of_getElem? ha'
          refine ⟨y ++ m1, a, c, o, ds, p1.trkN, p1.tab, List.mem_append_right _ hm, g1, o1, o2, RUs.pure (rvs.erase p) hds, ?_⟩
          split
          · rename_i d c' hd
            rw [hd] at h
            exact fun H' v o' E2 ho' rc rv => h m1 H' (E1.trans (E2.of_one hm)) (R1.one E2 ha' ho' rc) v (.d rv)
          · rename_i ee c' hd
            rw [hd] at h
            exact fun H' o' cls d E2 ho' rc rx => h m1 H' cls d (E1.trans (E2.of_one hm)) (R1.one E2 ha' ho' rc) rx
          · rename_i hd
            rw [hd] at h
            exact h
      · exact h.elim
    · exact h.elim
theorem e_callN {F : List D → RNw} (h : Kn (gOf X T) X.base k x (spN (gOf X T) n F)) (hr : Room k X.A) (tk : Takes X W) (hn : Nat.beq fs.length n = true := by rfl) (ha : PA X (e :: es) (tA (gOf X T) W (argsM fs))) (hg : Gl X x := by rfl)
    (hdb : (x == ("__debug__" : Str)) = false := by decide) (he : starEach (e :: es) X.env = (false, eval e X.env) :: starEach es X.env := by rfl) (hpl : (backTo pos (starEach es X.env)).any (·.1) = false := by rfl) :
    PE X (.Call (.Name x px) (e :: es) [] pos) (tE (gOf X T) W (callN F fs)) := by
  obtain ⟨f, fd, ps, h1, h2, h3, h4⟩ := h.ex
  refine pe_mono (pe_callS h1 hr hg h2 h3 h4 (fun σ => passAt tk σ) ha hdb he hpl) fun σ H Q h => ?_
  obtain ⟨y, m, ρ, S, q, h⟩ := h
  cases q1 : argsM fs ρ S with
  | un => simp only [callN, q1, O.bind] at h; exact h.elim
  | ex ee S' =>
    refine ⟨y, m, ρ, S, q, ?_⟩
    simp only [callN, q1, O.bind] at h ⊢
    exact h
  | ok us S' =>
    refine ⟨y, m, ρ, S, q, ?_⟩
    rw [q1]
    intro m1 H1 E1 R1 vs rvs
    have p1 := q.ext E1 R1
    simp only [callN, q1, O.bind] at h
    refine ⟨by rw [← RUs.length rvs, argsM_len q1]; exact Nat.eq_of_beq_eq_true hn, ?_⟩
    split at h
    · rename_i ds hds
      refine ⟨y ++ m1, ds, p1.trkN, p1.tab, RUs.pure rvs hds, ?_⟩
      split
      · rename_i c hd
        rw [hd] at h
        intro H' a o E2 ho rc
        obtain ⟨nw, e2, f2⟩ := E2.pre
        have hn1 : ¬ Nt H1 a := f2 a (by rw [List.nil_append] at e2; rw [← e2]; simp)
        have E3 : Ext (gOf X T) m1 H1 (m1 ++ [a]) H' := E2.of_new hn1
        refine h (m1 ++ [a]) H' (E1.trans E3) ?_ _ (.c (by rw [← R1.len]; simp))
        have nm : a ∉ m1 := fun z => hn1 (R1.nt z)
        refine ⟨by simp [R1.len], List.nodup_append.mpr ⟨R1.nd, by simp, fun b hb c' hc' => ?_⟩, fun b hb => List.mem_append_right _ hb, fun i b c' g1 g2 => ?_⟩
        · have : c' = a := by simpa using hc'
          subst this
          exact fun z => nm (z ▸ hb)
        · by_cases hi : i < m1.length
          · rw [List.getElem?_append_left hi] at g1
            rw [List.getElem?_append_left (by rw [← R1.len]; exact hi)] at g2
            obtain ⟨o', q3, q4⟩ := R1.at' i b c' g1 g2
            exact ⟨o', E2.keep _ _ q3 (fun z => by cases z) q4.notbl, q4.ext E3⟩
          · have e4 : i = m1.length := by
              have := (List.getElem?_eq_some_iff.mp g1).1
              simp at this
              omega
            subst e4
            rw [List.getElem?_append_right (Nat.le_refl _), Nat.sub_self] at g1
            rw [R1.len, List.getElem?_append_right (Nat.le_refl _), Nat.sub_self] at g2
            have e5 : a = b := Option.some.inj g1
            have e6 : c = c' := Option.some.inj g2
            subst e5 e6
            exact ⟨o, ho, by rw [← List.append_assoc]; exact rc⟩
      · rename_i ee hd
        rw [hd] at h
        exact fun H' cls d E2 rx => h m1 H' cls d (E1.trans E2.of_nil) (R1.stay0 E2) rx
      · rename_i hd
        rw [hd] at h
        exact h
    · exact h.elim
end

/-! ### a body's mirror gives the promise -/
def env0 (n : Nat) (us : List U) : Env := us.map some ++ List.replicate (n - us.length) none
def frz (S : Sto) : U → Option D
  | .d x => some x
  | .c i => match S[i]? with
    | some (.lst xs) => some (.lst xs)
    | some (.dic t ks vs) => some (.dic t ks vs)
    | _ => none
def run0 (n : Nat) (f : MS) (ds : List D) : R := match f (env0 n (ds.map .d)) [] with
  | .rt u S => match frz S u with
    | some d => .ok d
    | none => .un
  | .nx _ _ => .ok .non
  | .ex e _ _ => .ex e
  | _ => .un
def ins1 (p : Nat) (ds : List D) : List U := (ds.take p).map .d ++ .c 0 :: (ds.drop p).map .d
def run1 (n p : Nat) (f : MS) (ds : List D) (c : Cell) : R1 := match f (env0 n (ins1 p ds)) [c] with
  | .rt (.d d) (c' :: _) => .ok d c'
  | .rt (.c (i + 1)) (c' :: S) => match frz S (.c i) with
    | some d => .ok d c'
    | none => .un
  | .nx _ (c' :: _) => .ok .non c'
  | .ex e _ (c' :: _) => .ex e c'
  | _ => .un
def runN (n : Nat) (f : MS) (ds : List D) : RNw := match f (env0 n (ds.map .d)) [] with
  | .rt (.c i) S => match S[i]? with
    | some c => .ok c
    | none => .un
  | .ex e _ _ => .ex e
  | _ => .un
section
variable {G : Gc} {e m : List Addr} {H : Hp}
theorem RE.nones : ∀ (n : Nat), RE G e m H (List.replicate n none) (List.replicate n none)
  | 0 => .nil
  | n + 1 => by rw [List.replicate_succ, List.replicate_succ]; exact .em (RE.nones n)
theorem RE.of : ∀ {us : List U} {vs : List V} (n : Nat), RUs G e m H us vs → RE G e m H (us.map some ++ List.replicate n none) (vs.map some ++ List.replicate n none)
  | _, _, n, .nil => RE.nones n
  | _, _, n, .cons r t => .cns r (RE.of n t)
theorem RVs.us : ∀ {ds : List D} {vs : List V}, RVs G e H ds vs → RUs G e m H (ds.map .d) vs
  | _, _, .nil => .nil
  | _, _, .cons r t => .cons (.d r) (RVs.us t)
theorem RUs.app : ∀ {us : List U} {vs : List V} {us' : List U} {vs' : List V}, RUs G e m H us vs → RUs G e m H us' vs' → RUs G e m H (us ++ us') (vs ++ vs')
  | _, _, _, _, .nil, r => r
  | _, _, _, _, .cons r t, q => .cons r (RUs.app t q)
theorem frz_rv {x : List Addr} {S : Sto} {u : U} {v : V} {d : D} (s : RS G (x ++ m) m H S) (hm : ∀ a ∈ m, a ∉ x) (r : RU G (x ++ m) m H u v) (h : frz S u = some d) : RV G x H d v := by
  have kp : Keep G (x ++ m) H x H := keep_sub fun a ha => List.mem_append_left _ ha
  cases r with
  | d r => cases h; exact r.keep kp
  | @c i a ha =>
    unfold frz at h
    split at h
    · rename_i y hy; cases hy
    · rename_i j hy
      cases hy
      have na : a ∉ x := hm a (List.mem_of_getElem? ha)
      split at h
      · rename_i xs hs
        cases h
        obtain ⟨o, q1, q2⟩ := s.at' i a _ ha hs
        cases q2 with
        | lst q => exact .lst q1 na (q.keep kp)
      · rename_i t ks vs hs
        cases h
        obtain ⟨o, q1, q2⟩ := s.at' i a _ ha hs
        cases q2 with
        | dic q q3 => exact .dic q1 na q (q3.keep kp)
      · cases h
theorem RX.sub {x : List Addr} {ex : Exn} {cls : Value} {d : Option Addr} (r : RX G (x ++ m) H ex cls d) : RX G x H ex cls d := by
  obtain ⟨C, h1, h2, h3⟩ := r
  refine ⟨C, h1, h2, ?_⟩
  revert h3
  cases ex.fs with
  | none => exact id
  | some fs => exact fun ⟨a, gs, q1, q2, q3⟩ => ⟨a, gs, q1, q2, q3.keep (keep_sub fun a ha => List.mem_append_left _ ha)⟩
end
section
variable {P : Program} {w : World} {K : PySem.W.Frag} {mg : Str → Option Value} {base : Heap} {T : List (Addr × Str)} {x qual : Str} {st : Stmt} {f : Addr} {fd : FuncData} {N ps : List Str} {k : Nat} {b : MS}
/-- the context of a body -/
abbrev bodyX (P : Program) (w : World) (K : PySem.W.Frag) (mg : Str → Option Value) (base : Heap) (N : List Str) (qual : Str) (st : Stmt) (f : Addr) (cdv : Value) (A : Around) (outer : List PySem.Env) (s : Shared) (H : Hp) (E : XK) : Cx :=
  cxOf (L2.CX P w) P w K mg base N qual (defScope st) f cdv A outer s H E
abbrev Der (P : Program) (w : World) (K : PySem.W.Frag) (mg : Str → Option Value) (base : Heap) (T : List (Addr × Str)) (N : List Str) (qual : Str) (st : Stmt) (f : Addr) (k : Nat) (b : MS) : Prop :=
  ∀ (cdv : Value) (A : Around) (outer : List PySem.Env) (s : Shared) (H : Hp) (E : XK), Room k (bodyX P w K mg base N qual st f cdv A outer s H E).A → (bodyX P w K mg base N qual st f cdv A outer s H E).A.units + 65 < cLine →
    Takes (bodyX P w K mg base N qual st f cdv A outer s H E) (fun cls d _ H => E cls d H) → PassesOwn (model (bodyX P w K mg base N qual st f cdv A outer s H E).prog (bodyX P w K mg base N qual st f cdv A outer s H E).w) (bodyX P w K mg base N qual st f cdv A outer s H E).A (bodyX P w K mg base N qual st f cdv A outer s H E).env (bodyX P w K mg base N qual st f cdv A outer s H E).xe →
    PSs (bodyX P w K mg base N qual st f cdv A outer s H E) (defBody st) (tS (gOf (bodyX P w K mg base N qual st f cdv A outer s H E) T) (fun cls d _ H => E cls d H) b)

theorem ok_body (F : Fun K x qual st f fd) (S : FnScope N ps (defScope st)) {sp : Sp} (hl : ∀ vs H Q E, sp vs H Q E → vs.length = ps.length) (D' : Der P w K mg base T N qual st f k b)
    (h : ∀ vs H Q E, sp vs H Q E → ∃ (x m : List Addr) (ρ : Env) (S' : Sto), Rp ⟨P, w, K, mg, T⟩ x m H ρ S' (L2.start N vs) ∧ PostS ⟨P, w, K, mg, T⟩ (fun cls d _ H => E cls d H) x m H (b ρ S') { nx := fun _ H' => Q .non H', rt := Q }) :
    FnOk P w K mg base (L2.CX P w) (k + 1) f fd ps sp := by
  refine F.okX S hl fun cdv A outer s H vs Q E hr hsp => ?_
  exact ⟨_, D' cdv A outer s H E hr (Nat.lt_of_le_of_lt (Nat.add_le_add_left (show 65 ≤ 16 * k + 200 by omega) _) (by rw [← Nat.add_assoc]; exact hr.un)) (takes_of rfl rfl rfl rfl) (passes_of rfl), h vs H Q E hsp⟩
theorem ok0 {n : Nat} {Fn : List D → R} (F : Fun K x qual st f fd) (S : FnScope N ps (defScope st)) (D' : Der P w K mg base T N qual st f k b) (hn : n = ps.length) (h : ∀ ds, Fn ds ≠ .un → run0 N.length b ds = Fn ds) :
    FnOk P w K mg base (L2.CX P w) (k + 1) f fd ps (sp0 ⟨P, w, K, mg, T⟩ n Fn) := by
  refine ok_body F S (fun vs H Q E h => h.1.trans hn) D' fun vs H Q E ⟨hl, y, ds, tr, tb, r, pr⟩ => ?_
  have hds : ds.length = vs.length := r.len
  refine ⟨y, [], env0 N.length (ds.map .d), [], ⟨?_, ⟨rfl, List.nodup_nil, fun _ z => (by cases z), fun i a c h => (by simp at h)⟩, tr, tb⟩, ?_⟩
  · unfold env0 L2.start
    rw [List.length_map, hds, List.append_nil]
    exact RE.of _ (RVs.us r)
  · have hne : Fn ds ≠ .un := fun z => by rw [z] at pr; exact pr
    have hrun := h ds hne
    unfold run0 at hrun
    rw [← hrun] at pr
    cases q : b (env0 N.length (ds.map .d)) [] with
    | nx ρ' S' => rw [q] at pr; exact fun m' H' σ' E1 _ => pr H' .non E1.drop .non
    | rt u S' =>
      rw [q] at pr
      intro m' H' v E1 rs ru
      dsimp only at pr
      split at pr
      · rename_i d hd
        refine pr H' v E1.drop (frz_rv rs (fun a ha z => ?_) ru hd)
        obtain ⟨nw, e1, f1⟩ := E1.pre
        rw [List.nil_append] at e1
        exact f1 a (by rw [← e1]; exact ha) (tr a z)
      · exact pr.elim
    | bk ρ' S' => rw [q] at pr; exact pr.elim
    | ct ρ' S' => rw [q] at pr; exact pr.elim
    | ex e ρ' S' => rw [q] at pr; exact fun m' H' σ' cls d E1 _ rx => pr H' cls d E1.drop rx.sub
    | un => rw [q] at pr; exact pr.elim
theorem okN {n : Nat} {Fn : List D → RNw} (F : Fun K x qual st f fd) (S : FnScope N ps (defScope st)) (D' : Der P w K mg base T N qual st f k b) (hn : n = ps.length) (h : ∀ ds, Fn ds ≠ .un → runN N.length b ds = Fn ds) :
    FnOk P w K mg base (L2.CX P w) (k + 1) f fd ps (spN ⟨P, w, K, mg, T⟩ n Fn) := by
  refine ok_body F S (fun vs H Q E h => h.1.trans hn) D' fun vs H Q E ⟨hl, y, ds, tr, tb, r, pr⟩ => ?_
  have hds : ds.length = vs.length := r.len
  refine ⟨y, [], env0 N.length (ds.map .d), [], ⟨?_, ⟨rfl, List.nodup_nil, fun _ z => (by cases z), fun i a c h => (by simp at h)⟩, tr, tb⟩, ?_⟩
  · unfold env0 L2.start
    rw [List.length_map, hds, List.append_nil]
    exact RE.of _ (RVs.us r)
  · have hne : Fn ds ≠ .un := fun z => by rw [z] at pr; exact pr
    have hrun := h ds hne
    unfold runN at hrun
    rw [← hrun] at pr
    cases q : b (env0 N.length (ds.map .d)) [] with
    | nx ρ' S' => rw [q] at pr; exact pr.elim
    | rt u S' =>
      rw [q] at pr
      intro m' H' v E1 rs ru
      cases ru with
      | d r => exact pr.elim
      | @c i a ha =>
        cases hS : S'[i]? with
        | none => simp only [hS] at pr
        | some c =>
          simp only [hS] at pr
          obtain ⟨o, o1, o2⟩ := rs.at' i a _ ha hS
          obtain ⟨nw, e1, f1⟩ := E1.pre
          rw [List.nil_append] at e1
          have na : ¬ Nt H a := f1 a (by rw [← e1]; exact List.mem_of_getElem? ha)
          refine pr H' a o ⟨fun b u g _ t => E1.keep b u g (fun z => by cases z) t, E1.tups, E1.frzs, E1.owns, E1.live, ⟨[a], rfl, fun b hb => ?_⟩, E1.tab⟩ o1 (o2.keep (keep_sub fun c hc => ?_) fun _ _ z => z)
          · have e2 : b = a := by simpa using hb
            rw [e2]; exact na
          · rcases List.mem_append.mp hc with z | z
            · exact List.mem_append_left _ z
            · have e2 : c = a := by simpa using z
              rw [e2]; exact List.mem_append_right _ (List.mem_of_getElem? ha)
    | bk ρ' S' => rw [q] at pr; exact pr.elim
    | ct ρ' S' => rw [q] at pr; exact pr.elim
    | ex e ρ' S' => rw [q] at pr; exact fun m' H' σ' cls d E1 _ rx => pr H' cls d E1.drop rx.sub
    | un => rw [q] at pr; exact pr.elim
theorem ins_rus {G : Gc} {e m : List Addr} {H : Hp} {a : Addr} (hm : m[0]? = some a) : ∀ {p : Nat} {ds : List D} {vs : List V}, RVs G e H ds (vs.eraseIdx p) → vs[p]? = some (.ref a) → RUs G e m H (ins1 p ds) vs
  | 0, ds, v :: vs, r, h => by
    simp only [List.getElem?_cons_zero, Option.some.injEq] at h
    subst h
    rw [List.eraseIdx_cons_zero] at r
    simp only [ins1, List.take_zero, List.map_nil, List.nil_append, List.drop_zero]
    exact .cons (.c hm) (RVs.us r)
  | p + 1, ds, v :: vs, r, h => by
    rw [List.eraseIdx_cons_succ] at r
    cases r with
    | @cons d _ ds' _ r1 r2 =>
      have q := ins_rus (p := p) hm r2 (by simpa using h)
      show RUs G e m H (ins1 (p + 1) (d :: ds')) (v :: vs)
      have e1 : ins1 (p + 1) (d :: ds') = .d d :: ins1 p ds' := by simp [ins1]
      rw [e1]
      exact .cons (.d r1) q
  | _, _, [], _, h => by simp at h
theorem ins1_len {p : Nat} {ds : List D} (h : p ≤ ds.length) : (ins1 p ds).length = ds.length + 1 := by
  simp [ins1]; omega
theorem ok1 {n p : Nat} {Fn : List D → Cell → R1} (F : Fun K x qual st f fd) (S : FnScope N ps (defScope st)) (D' : Der P w K mg base T N qual st f k b) (hn : n = ps.length) (h : ∀ ds c, Fn ds c ≠ .un → run1 N.length p b ds c = Fn ds c) :
    FnOk P w K mg base (L2.CX P w) (k + 1) f fd ps (sp1 ⟨P, w, K, mg, T⟩ n p Fn) := by
  refine ok_body F S (fun vs H Q E h => h.1.trans hn) D' fun vs H Q E ⟨hl, y, a, c, o, ds, tr, tb, hay, hp, ha, rc, r, pr⟩ => ?_
  have kp : Keep ⟨P, w, K, mg, T⟩ y H (y ++ [a]) H := keep_sub fun b hb => by
    rcases List.mem_append.mp hb with z | z
    · exact z
    · have e1 : b = a := by simpa using z
      rw [e1]; exact hay
  have hus : RUs ⟨P, w, K, mg, T⟩ (y ++ [a]) [a] H (ins1 p ds) vs := ins_rus rfl (r.keep kp) hp
  refine ⟨y, [a], env0 N.length (ins1 p ds), [c], ⟨?_, ⟨rfl, by simp, fun b hb => List.mem_append_right _ hb, fun i b c' h1 h2 => ?_⟩, tr, tb⟩, ?_⟩
  · unfold env0 L2.start
    rw [RUs.length hus]
    exact RE.of _ hus
  · cases i with
    | zero =>
      simp at h1 h2
      subst h1 h2
      exact ⟨o, ha, rc.keep kp fun _ _ z => z⟩
    | succ i => simp at h1
  · have hne : Fn ds c ≠ .un := fun z => by rw [z] at pr; exact pr
    have hrun := h ds c hne
    unfold run1 at hrun
    rw [← hrun] at pr
    -- the first cell is still the caller's
    have first : ∀ {m' : List Addr} {H' : Hp} {c' : Cell} {S' : Sto}, Ext ⟨P, w, K, mg, T⟩ [a] H m' H' → RS ⟨P, w, K, mg, T⟩ (y ++ m') m' H' (c' :: S') → ∃ o', H' a = some o' ∧ RC ⟨P, w, K, mg, T⟩ y H' a c' o' := fun {m' H' c' S'} E1 rs => by
      obtain ⟨nw, e1, f1⟩ := E1.pre
      obtain ⟨o', q1, q2⟩ := rs.at' 0 a c' (by rw [e1]; rfl) rfl
      exact ⟨o', q1, q2.keep (keep_sub fun b hb => List.mem_append_left _ hb) fun _ _ z => z⟩
    cases q : b (env0 N.length (ins1 p ds)) [c] with
    | nx ρ' S' =>
      rw [q] at pr
      intro m' H' σ' E1 rp
      cases S' with
      | nil => exact pr.elim
      | cons c' S' =>
        obtain ⟨o', q1, q2⟩ := first E1 rp.sto
        exact pr H' .non o' E1.drop q1 q2 .non
    | rt u S' =>
      rw [q] at pr
      intro m' H' v E1 rs ru
      cases S' with
      | nil =>
        cases u with
        | d x => exact pr.elim
        | c i => cases i <;> exact pr.elim
      | cons c' S' =>
        obtain ⟨o', q1, q2⟩ := first E1 rs
        obtain ⟨nw, e1, f1⟩ := E1.pre
        cases u with
        | d x =>
          cases ru with
          | d r => exact pr H' v o' E1.drop q1 q2 (r.keep (keep_sub fun b hb => List.mem_append_left _ hb))
        | c i =>
          cases i with
          | zero => exact pr.elim
          | succ i =>
            cases hf : frz S' (.c i) with
            | none => simp only [hf] at pr
            | some d =>
              simp only [hf] at pr
              refine pr H' v o' E1.drop q1 q2 ?_
              cases ru with
              | @c _ b hb =>
                have hb' : b ∈ nw := by
                  rw [e1] at hb
                  exact List.mem_of_getElem? (by simpa using hb)
                have nb : b ∉ y := fun z => f1 b hb' (tr b z)
                unfold frz at hf
                dsimp only at hf
                split at hf
                · rename_i xs hs
                  cases hf
                  obtain ⟨o2, q3, q4⟩ := rs.at' (i + 1) b _ hb (by simpa using hs)
                  cases q4 with
                  | lst q4 => exact .lst q3 nb (q4.keep (keep_sub fun b hb => List.mem_append_left _ hb))
                · rename_i t ks vs' hs
                  cases hf
                  obtain ⟨o2, q3, q4⟩ := rs.at' (i + 1) b _ hb (by simpa using hs)
                  cases q4 with
                  | dic q4 q5 => exact .dic q3 nb q4 (q5.keep (keep_sub fun b hb => List.mem_append_left _ hb))
                · cases hf
    | bk ρ' S' => rw [q] at pr; exact pr.elim
    | ct ρ' S' => rw [q] at pr; exact pr.elim
    | ex e ρ' S' =>
      rw [q] at pr
      intro m' H' σ' cls d E1 rp rx
      cases S' with
      | nil => exact pr.elim
      | cons c' S' =>
        obtain ⟨o', q1, q2⟩ := first E1 rp.sto
        exact pr H' o' cls d E1.drop q1 q2 rx.sub
    | un => rw [q] at pr; exact pr.elim
end
end Mir

/-! Mir7: statements. -/
namespace Mir
open PySem PySem.Spec PyProof.Rows L2

abbrev MG := U → Env → Sto → Option (Env × Sto)
def nxtM : MS := fun ρ S => .nx ρ S
def seqM (f g : MS) : MS := fun ρ S => match f ρ S with
  | .nx ρ' S' => g ρ' S'
  | o => o
def toS (ρ : Env) (o : O U) (k : U → Sto → SO) : SO := match o with
  | .ok u S' => k u S'
  | .ex e S' => .ex e ρ S'
  | .un => .un
def retM (f : ME) : MS := fun ρ S => toS ρ (f ρ S) fun u S' => .rt u S'
def retNM : MS := fun _ S => .rt (.d .non) S
def drpM (f : ME) : MS := fun ρ S => toS ρ (f ρ S) fun _ S' => .nx ρ S'
def asgM (f : ME) (g : MG) : MS := fun ρ S => toS ρ (f ρ S) fun u S' => match g u ρ S' with
  | some q => .nx q.1 q.2
  | none => .un
def ifM (t : MT) (f g : MS) : MS := fun ρ S => match t ρ S with
  | .ok b S' => if b = true then f ρ S' else g ρ S'
  | .ex e S' => .ex e ρ S'
  | .un => .un
def brkM : MS := fun ρ S => .bk ρ S
def cntM : MS := fun ρ S => .ct ρ S
def raiM (e : Exn) : MS := fun ρ S => .ex e ρ S
/-- targets -/
def namG (i : Nat) : MG := fun u ρ S => some (ρ.set i (some u), S)
def allG : List MG → List D → Env → Sto → Option (Env × Sto)
  | [], [], ρ, S => some (ρ, S)
  | g :: gs, d :: ds, ρ, S => match g (.d d) ρ S with
    | some q => allG gs ds q.1 q.2
    | none => none
  | _, _, _, _ => none
def tupG (gs : List MG) : MG := fun u ρ S => match u with
  | .d (.tup xs) => allG gs xs ρ S
  | _ => none
def lsuG (gs : List MG) : MG := fun u ρ S => match rd S u with
  | some (.lst xs) => allG gs xs ρ S
  | _ => none
/-- two or three names at once -/
def parM (is : List Nat) (fs : List ME) : MS := fun ρ S => match argsM fs ρ S with
  | .ok us S' => if us.length = is.length then .nx ((is.zip us).foldl (fun ρ p => ρ.set p.1 (some p.2)) ρ) S' else .un
  | .ex e S' => .ex e ρ S'
  | .un => .un

section
variable {G : Gc} {W : WX} {x m : List Addr} {H : Hp} {σ : St} {ρ : Env}
theorem Post.toS {o : O U} {k : U → Sto → SO} {Dn : Ends} (h : PostS G W x m H (toS ρ o k) Dn) {S : Sto} (p : Rp G x m H ρ S σ) : Post G W x m σ H o fun u S1 m1 H1 => Ext G m H m1 H1 ∧ RS G (x ++ m1) m1 H1 S1 ∧ PostS G W x m1 H1 (k u S1) Dn := by
  cases o with
  | ok u S' => exact fun m' H' E R => ⟨E, R, PostS.shift E h⟩
  | ex e S' => exact fun m' H' cls d E R rx => h m' H' σ cls d E (p.ext E R) rx
  | un => exact h
end
def tG (G : Gc) (W : WX) (g : MG) : TG := fun v σ H Q => ∃ x m ρ S u, Rp G x m H ρ S σ ∧ RU G (x ++ m) m H u v ∧ match g u ρ S with
  | some q => ∀ m' H' σ', Ext G m H m' H' → Rp G x m' H' q.1 q.2 σ' → Q σ' H'
  | none => False
section
variable {X : Cx} {T : List (Addr × Str)} {W : WX} {st : Stmt} {rest a b : List Stmt} {e : Expr} {f g : MS} {fe : ME} {gt : MG} {pos : Pos}
theorem s_nil : PSs X [] (tS (gOf X T) W nxtM) := pss_mono pss_nil fun Dn σ H h => by
  obtain ⟨x, m, ρ, S, p, h⟩ := h
  exact h m H σ Ext.refl p
theorem s_cons (h1 : PS X st (tS (gOf X T) W f)) (h2 : PSs X rest (tS (gOf X T) W g)) : PSs X (st :: rest) (tS (gOf X T) W (seqM f g)) := pss_mono (pss_cons h1 h2) fun Dn σ H h => by
  obtain ⟨x, m, ρ, S, p, h⟩ := h
  refine ⟨x, m, ρ, S, p, ?_⟩
  unfold seqM at h
  cases q : f ρ S with
  | nx ρ' S' =>
    rw [q] at h
    exact fun m' H' σ' E1 p1 => ⟨x, m', ρ', S', p1, PostS.shift E1 h⟩
  | rt u S' => rw [q] at h; exact h
  | bk ρ' S' => rw [q] at h; exact h
  | ct ρ' S' => rw [q] at h; exact h
  | ex e ρ' S' => rw [q] at h; exact h
  | un => rw [q] at h; exact h
theorem s_one (h1 : PS X st (tS (gOf X T) W f)) : PSs X [st] (tS (gOf X T) W f) := pss_one h1
theorem s_pass : PS X (.Pass pos) (tS (gOf X T) W nxtM) := ps_mono ps_pass fun Dn σ H h => by
  obtain ⟨x, m, ρ, S, p, h⟩ := h
  exact h m H σ Ext.refl p
theorem s_doc {y j p2} : PS X (.Expr (.Constant (.str y) j pos) p2) (tS (gOf X T) W nxtM) := ps_mono ps_doc fun Dn σ H h => by
  obtain ⟨x, m, ρ, S, p, h⟩ := h
  exact h m H σ Ext.refl p
theorem s_brk : PS X (.Break pos) (tS (gOf X T) W brkM) := ps_mono ps_break fun Dn σ H h => by
  obtain ⟨x, m, ρ, S, p, h⟩ := h
  exact h m H σ Ext.refl p
theorem s_cnt : PS X (.Continue pos) (tS (gOf X T) W cntM) := ps_mono ps_continue fun Dn σ H h => by
  obtain ⟨x, m, ρ, S, p, h⟩ := h
  exact h m H σ Ext.refl p
theorem s_ret (he : PE X e (tE (gOf X T) W fe)) : PS X (.Return (some e) pos) (tS (gOf X T) W (retM fe)) := ps_mono (ps_ret he) fun Dn σ H h => by
  obtain ⟨x, m, ρ, S, p, h⟩ := h
  exact ⟨x, m, ρ, S, p, (Post.toS h p).mono fun u S1 m1 H1 E1 R1 ⟨_, _, h1⟩ v rv => h1 m1 H1 v Ext.refl R1 rv⟩
theorem s_retN : PS X (.Return none pos) (tS (gOf X T) W retNM) := ps_mono ps_retN fun Dn σ H h => by
  obtain ⟨x, m, ρ, S, p, h⟩ := h
  exact h m H .non Ext.refl p.sto (.d .non)
theorem s_expr (he : PE X e (tE (gOf X T) W fe)) (hs : swapsWith e none pos.line X.env = pure false := by rfl) : PS X (.Expr e pos) (tS (gOf X T) W (drpM fe)) := ps_mono (ps_expr he hs) fun Dn σ H h => by
  obtain ⟨x, m, ρ, S, p, h⟩ := h
  exact ⟨x, m, ρ, S, p, (Post.toS h p).mono fun u S1 m1 H1 E1 R1 ⟨_, _, h1⟩ v rv => h1 m1 H1 σ Ext.refl (p.ext E1 R1)⟩
theorem s_set (i : Nat) {y : Str} {p2 : Pos} (hN : X.N.Nodup) (he : PE X e (tE (gOf X T) W fe)) (hi : X.N[i]? = some y := by rfl) (hx : Loc X.env.scope y := by first | exact Or.inl rfl | exact Or.inr rfl) (hs : swapsWith e (some (.Name y p2)) pos.line X.env = pure false := by rfl) (hf : X.fn y = true ∨ X.env.scope.names.lookup y = some .local := by first | exact .inl rfl | exact .inr rfl) :
    PS X (.Assign [.Name y p2] e pos) (tS (gOf X T) W (asgM fe (namG i))) := ps_mono (ps_set hN hi hx he hs hf) fun Dn σ H h => by
  obtain ⟨x, m, ρ, S, p, h⟩ := h
  refine ⟨x, m, ρ, S, p, (Post.toS h p).mono fun u S1 m1 H1 E1 R1 ⟨_, _, h1⟩ v rv => ?_⟩
  have p1 := p.ext E1 R1
  exact h1 m1 H1 _ Ext.refl ⟨p1.env.set rv i, p1.sto, p1.ex, p1.tab⟩
theorem s_asg {tg : Expr} (he : PE X e (tE (gOf X T) W fe)) (hg : PG X tg (tG (gOf X T) W gt)) (hs : swapsWithSole [tg] e pos.line X.env = pure false := by rfl) (hw : swappedStores [tg] e X.env = pure none := by rfl)
    (h1 : (assignEach [tg] X.env).map (·.2) = [assign tg X.env] := by rfl) : PS X (.Assign [tg] e pos) (tS (gOf X T) W (asgM fe gt)) := ps_mono (ps_asg he hg hs hw h1) fun Dn σ H h => by
  obtain ⟨x, m, ρ, S, p, h⟩ := h
  cases q : fe ρ S with
  | un => simp only [asgM, q, toS] at h; exact h.elim
  | ex ee S' =>
    refine ⟨x, m, ρ, S, p, ?_⟩
    simp only [asgM, q, toS] at h ⊢
    exact fun m' H' cls d E R rx => h m' H' σ cls d E (p.ext E R) rx
  | ok u S' =>
    refine ⟨x, m, ρ, S, p, ?_⟩
    rw [q]
    intro m1 H1 E1 R1 v rv
    have p1 := p.ext E1 R1
    simp only [asgM, q, toS] at h
    refine ⟨x, m1, ρ, S', u, p1, rv, ?_⟩
    revert h
    cases gt u ρ S' with
    | some q => exact fun h m' H' σ' E2 p2 => h m' H' σ' (E1.trans E2) p2
    | none => exact fun h => h
theorem s_if {c : Expr} {tc : MT} (hc : PT X c (tT (gOf X T) W tc)) (ha : PSs X a (tS (gOf X T) W f)) (hb : PSs X b (tS (gOf X T) W g)) : PS X (.If c a b pos) (tS (gOf X T) W (ifM tc f g)) := ps_mono (ps_if hc ha hb) fun Dn σ H h => by
  obtain ⟨x, m, ρ, S, p, h⟩ := h
  refine ⟨x, m, ρ, S, p, ?_⟩
  unfold ifM at h
  cases q : tc ρ S with
  | un => rw [q] at h; exact h
  | ex ee S' => rw [q] at h; exact fun m' H' cls d E R rx => h m' H' σ cls d E (p.ext E R) rx
  | ok b S' =>
    rw [q] at h
    intro m1 H1 E1 R1
    cases b with
    | true => exact iteT ⟨x, m1, ρ, S', p.ext E1 R1, PostS.shift E1 (by simpa using h)⟩
    | false => exact iteF ⟨x, m1, ρ, S', p.ext E1 R1, PostS.shift E1 (by simpa using h)⟩
/-! ### targets -/
theorem g_nam (i : Nat) {y : Str} (hN : X.N.Nodup) (hi : X.N[i]? = some y := by rfl) (hx : Loc X.env.scope y := by first | exact Or.inl rfl | exact Or.inr rfl) (hf : X.fn y = true ∨ X.env.scope.names.lookup y = some .local := by first | exact .inl rfl | exact .inr rfl) :
    PG X (.Name y pos) (tG (gOf X T) W (namG i)) := ⟨fun pins s σ H v u Q I r h => (pg_name hN hi hx hf).run pins s σ H v u Q I r (by
  obtain ⟨x, m, ρ, S, u', p, ru, h⟩ := h
  exact h m H _ Ext.refl ⟨p.env.set ru i, p.sto, p.ex, p.tab⟩)⟩
def tGs (G : Gc) (W : WX) (gs : List MG) : TGs := fun vs σ H Q => ∃ x m ρ S ds, Rp G x m H ρ S σ ∧ RVs G (x ++ m) H ds vs ∧ match allG gs ds ρ S with
  | some q => ∀ m' H' σ', Ext G m H m' H' → Rp G x m' H' q.1 q.2 σ' → Q σ' H'
  | none => False
theorem gs_nil : PGs X [] (tGs (gOf X T) W []) := ⟨fun pins s σ H vs us Q I r h => pgs_nil.run pins s σ H vs us Q I r (by
  obtain ⟨x, m, ρ, S, ds, p, rv, h⟩ := h
  cases rv with
  | nil => exact ⟨rfl, h m H σ Ext.refl p⟩
  | cons _ _ => exact h.elim)⟩
theorem gs_cons {es : List Expr} {gs : List MG} (h1 : PG X e (tG (gOf X T) W gt)) (h2 : PGs X es (tGs (gOf X T) W gs)) (hs : (assignEach (e :: es) X.env).map (·.2) = assign e X.env :: (assignEach es X.env).map (·.2) := by rfl) :
    PGs X (e :: es) (tGs (gOf X T) W (gt :: gs)) := ⟨fun pins s σ H vs us Q I r h => (pgs_cons h1 h2 hs).run pins s σ H vs us Q I r (by
  obtain ⟨x, m, ρ, S, ds, p, rv, h⟩ := h
  cases rv with
  | nil => exact h.elim
  | @cons d v ds vs r1 r2 =>
    refine ⟨v, vs, rfl, x, m, ρ, S, .d d, p, .d r1, ?_⟩
    simp only [allG] at h
    cases q : gt (.d d) ρ S with
    | none => rw [q] at h; exact h
    | some q1 =>
      rw [q] at h
      refine fun m' H' σ' E1 p1 => ⟨x, m', q1.1, q1.2, ds, p1, r2.keep E1.kp, ?_⟩
      revert h
      dsimp only
      cases allG gs ds q1.1 q1.2 with
      | some q2 => exact fun h m2 H2 σ2 E2 p2 => h m2 H2 σ2 (E1.trans E2) p2
      | none => exact fun h => h)⟩
theorem allG_len : ∀ {gs : List MG} {ds : List D} {ρ : Env} {S : Sto} {q : Env × Sto}, allG gs ds ρ S = some q → ds.length = gs.length := by
  intro gs
  induction gs with
  | nil => intro ds ρ S r q; cases ds with
    | nil => rfl
    | cons _ _ => simp [allG] at q
  | cons g gs ih => intro ds ρ S r q; cases ds with
    | nil => simp [allG] at q
    | cons d ds =>
      simp only [allG] at q
      split at q
      · simp [ih q]
      · cases q
theorem g_tup {es : List Expr} {k n : Nat} {gs : List MG} (hc : X.calm = true) (h : PGs X es (tGs (gOf X T) W gs)) (hl : gs.length = n := by rfl)
    (hn : (assignEach es X.env).length = n := by rfl) (hst : (assignEach es X.env).findIdx? (·.1) = none := by rfl) : PG X (.Tuple es k pos) (tG (gOf X T) W (tupG gs)) := ⟨fun pins s σ H v u Q I r hw => (pg_tup hc h hn hst).run pins s σ H v u Q I r (by
  obtain ⟨x, m, ρ, S, u', p, ru, hw⟩ := hw
  unfold tupG at hw
  split at hw
  · rename_i q
    split at q
    · rename_i xs
      cases ru with
      | d rr => cases rr with
        | @tup a vs _ h1 h2 =>
          refine ⟨a, vs, rfl, h1, ?_, x, m, ρ, S, xs, p, h2, by rw [q]; exact hw⟩
          rw [← h2.len, ← hl]
          exact allG_len q
    · cases q
  · exact hw.elim)⟩
theorem g_lsu {es : List Expr} {k n : Nat} {gs : List MG} (hc : X.calm = true) (h : PGs X es (tGs (gOf X T) W gs)) (hl : gs.length = n := by rfl)
    (hn : (assignEach es X.env).length = n := by rfl) (hst : (assignEach es X.env).findIdx? (·.1) = none := by rfl) : PG X (.Tuple es k pos) (tG (gOf X T) W (lsuG gs)) := ⟨fun pins s σ H v u Q I r hw => (pg_lst hc h hn hst).run pins s σ H v u Q I r (by
  obtain ⟨x, m, ρ, S, u', p, ru, hw⟩ := hw
  unfold lsuG at hw
  split at hw
  · rename_i q
    split at q
    · rename_i xs hx
      obtain ⟨a, vs, rfl, h1, h2⟩ := (ru.rt p.sto hx).lst'
      exact ⟨a, vs, rfl, .of h1, by rw [← h2.len, ← hl]; exact allG_len q, x, m, ρ, S, xs, p, h2, by rw [q]; exact hw⟩
    · cases q
  · exact hw.elim)⟩
end
end Mir

/-! Mir8: built-in functions. -/
namespace Mir
open PySem PySem.Spec PyProof.Rows L2
def biM (g : List D → Option D) (fs : List ME) : ME := fun ρ S => (argsM fs ρ S).bind fun us S1 => match rds S1 us with
  | some ds => match g ds with
    | some z => .ok (.d z) S1
    | none => .un
  | none => .un
def rC (G : Gc) (g : List D → Option D) : List V → Hp → VK → Prop := fun vs H Q => ∃ ds z e m, g ds = some z ∧ (∀ b ∈ e, ∃ o, H b = some o) ∧ RTs G e H ds vs ∧
  ∀ H' w, Ext G m H m H' → (∀ a ∈ m, H a ≠ none → H' a = H a) → RV G e H' z w → Q w H'
section
variable {X : Cx} {T : List (Addr × Str)} {W : WX} {x : Str} {p pos : Pos} {e : Expr} {es : List Expr} {fs : List ME} {id : String} {g : List D → Option D}
theorem bi_red {σ : St} {H : Hp} {Q : VK} (h : tE (gOf X T) W (biM g fs) σ H Q) : tCB (rC (gOf X T) g) (tA (gOf X T) W (argsM fs)) σ H Q := by
  obtain ⟨y, m, ρ, S, p, h⟩ := h
  refine ⟨y, m, ρ, S, p, (Post.bind h).mono fun us S1 m1 H1 E1 R1 ⟨_, _, h1⟩ vs rvs => ?_⟩
  have p1 := p.ext E1 R1
  split at h1
  · rename_i ds q1
    split at h1
    · rename_i z q3
      exact ⟨ds, z, y ++ m1, m1, q3, p1.trk, RUs.rts R1 rvs q1, fun H' w' E3 hs r => h1 m1 H' E3 (R1.stay E3 fun a ha => hs a ha (by obtain ⟨o, q⟩ := R1.live ha; rw [q]; simp)) w' (.d r)⟩
    · exact h1.elim
  · exact h1.elim
theorem e_bi (hc : CallR X (.builtin id) (rC (gOf X T) g)) (hm : X.mg x = none) (hv : bootBuiltins x = some (.builtin id)) (ha : PA X (e :: es) (tA (gOf X T) W (argsM fs))) (hg : Gl X x := by rfl) (hn : x ≠ "__name__" := by decide) (hdb : (x == ("__debug__" : Str)) = false := by decide)
    (he : starEach (e :: es) X.env = (false, eval e X.env) :: starEach es X.env := by rfl) (hpl : (backTo pos (starEach es X.env)).any (·.1) = false := by rfl) : PE X (.Call (.Name x p) (e :: es) [] pos) (tE (gOf X T) W (biM g fs)) :=
  pe_mono (pe_callB hc hg hm hv ha hn hdb he hpl) fun σ H Q h => bi_red h
theorem e_biT (hc : CallR X (.type id) (rC (gOf X T) g)) (hm : X.mg x = none) (hv : bootBuiltins x = some (.type id)) (ha : PA X (e :: es) (tA (gOf X T) W (argsM fs))) (hg : Gl X x := by rfl) (hn : x ≠ "__name__" := by decide) (hdb : (x == ("__debug__" : Str)) = false := by decide)
    (he : starEach (e :: es) X.env = (false, eval e X.env) :: starEach es X.env := by rfl) (hpl : (backTo pos (starEach es X.env)).any (·.1) = false := by rfl) : PE X (.Call (.Name x p) (e :: es) [] pos) (tE (gOf X T) W (biM g fs)) :=
  pe_mono (pe_callTy hc hg hm hv ha hn hdb he hpl) fun σ H Q h => bi_red h
end

/-! ### isinstance against a built-in type -/
inductive TyE where
  | int | bool | str | tuple | list
  deriving DecidableEq
def TyE.nm : TyE → String
  | .int => "int" | .bool => "bool" | .str => "str" | .tuple => "tuple" | .list => "list"
def isE : TyE → D → Bool
  | .int, .int _ => true
  | .int, .bl _ => true
  | .bool, .bl _ => true
  | .str, .str _ => true
  | .tuple, .tup _ => true
  | .list, .lst _ => true
  | .list, .scr _ => true
  | _, _ => false
def isdic : D → Bool
  | .dic _ _ _ => true
  | _ => false
def isM (t : TyE) (f : ME) : ME := fun ρ S => (f ρ S).bind fun u S1 => match rd S1 u with
  | some d => if isdic d = true then .un else .ok (.d (.bl (isE t d))) S1
  | none => .un
section
variable {G : Gc} {e : List Addr} {H : Hp}
def tyN : D → String
  | .non => "NoneType" | .bl _ => "bool" | .int _ => "int" | .str _ => "str" | .tup _ => "tuple" | .lst _ => "list" | .scr _ => "list" | .dic _ _ _ => "dict"
theorem sqt_ty {K : PySem.W.Frag} {a : Addr} {xs : List V} (h : SqT K H a xs) : TyX K H (.ref a) (.type "tuple") := by
  rcases h with (h | ⟨o, h⟩) | ⟨o, its, n, h1, h2, _⟩
  · exact .base (.tup h)
  · exact .fTuple h
  · exact .kTuple h1 h2
theorem RT.ty {d : D} {v : V} (r : RT G e H d v) (h : isdic d = false) : TyX G.K H v (.type (tyN d)) := by
  cases r with
  | of r => cases r with
    | non => exact .base .non
    | bl b => exact .base (.bl b)
    | int i => exact .base (.int i)
    | str x => exact .base (.str x)
    | tup h1 _ => exact sqt_ty h1
    | lst h1 _ _ => exact .base (.lst h1)
    | scr h1 =>
      rcases h1 with ⟨o, h1⟩ | ⟨o, its, n, h1, h2, _⟩
      · exact .base (.frz h1)
      · exact .kList h1 h2
    | dic _ _ _ _ => simp [isdic] at h
  | lst h1 _ => exact .base (.lst h1)
  | dic _ _ _ => simp [isdic] at h
inductive TK where
  | non | bool | int | str | tuple | list | dict
def TK.nm : TK → String
  | .non => "NoneType" | .bool => "bool" | .int => "int" | .str => "str" | .tuple => "tuple" | .list => "list" | .dict => "dict"
def isK : TyE → TK → Bool
  | .int, .int => true
  | .int, .bool => true
  | .bool, .bool => true
  | .str, .str => true
  | .tuple, .tuple => true
  | .list, .list => true
  | _, _ => false
theorem kit_tab (t : TyE) (k : TK) : kitB k.nm t.nm = some (isK t k) := by
  cases t <;> cases k <;> decide +kernel
theorem kit_is (t : TyE) (d : D) : kitB (tyN d) t.nm = some (isE t d) := by
  cases d with
  | non => exact (kit_tab t .non).trans (by cases t <;> rfl)
  | bl b => exact (kit_tab t .bool).trans (by cases t <;> rfl)
  | int b => exact (kit_tab t .int).trans (by cases t <;> rfl)
  | str b => exact (kit_tab t .str).trans (by cases t <;> rfl)
  | tup b => exact (kit_tab t .tuple).trans (by cases t <;> rfl)
  | lst b => exact (kit_tab t .list).trans (by cases t <;> rfl)
  | scr b => exact (kit_tab t .list).trans (by cases t <;> rfl)
  | dic t' k v => exact (kit_tab t .dict).trans (by cases t <;> rfl)
end
section
variable {X : Cx} {T : List (Addr × Str)} {W : WX} {x y : Str} {p p2 pos : Pos} {a : Expr} {f : ME}
theorem e_isi (t : TyE) (hm : X.mg "isinstance" = none) (hmt : X.mg y = none) (hv : bootBuiltins y = some (.type t.nm)) (ha : PE X a (tE (gOf X T) W f)) (hg : Gl X "isinstance" := by rfl) (hgt : Gl X y := by rfl) (hn : y ≠ "__name__" := by decide) (hdb : (y == ("__debug__" : Str)) = false := by decide)
    (he : starEach [a, .Name y p2] X.env = (false, eval a X.env) :: starEach [.Name y p2] X.env := by rfl) (he2 : starEach [.Name y p2] X.env = (false, eval (.Name y p2) X.env) :: starEach [] X.env := by rfl) (hpl : (backTo pos (starEach [.Name y p2] X.env)).any (·.1) = false := by rfl) :
    PE X (.Call (.Name "isinstance" p) [a, .Name y p2] [] pos) (tE (gOf X T) W (isM t f)) :=
  pe_mono (pe_callB call_isi hg hm (by decide +kernel) (pa_cons ha (pa_cons (pe_bltn (v := .ty t.nm) hgt hmt hv rfl hn hdb) pa_nil he2) he) (hpl := hpl)  (he := he)) fun σ H Q h => by
    obtain ⟨y, m, ρ, S, p, h⟩ := h
    refine ⟨y, m, ρ, S, p, (Post.bind h).mono fun u S1 m1 H1 E1 R1 ⟨_, _, h1⟩ v rv => ?_⟩
    split at h1
    · rename_i d hd
      split at h1
      · exact h1.elim
      · rename_i nd
        exact ⟨v, .ty t.nm, .type (tyN d), .type t.nm, isE t d, rfl, .ty _, (rv.rt R1 hd).ty (by simpa using nd), kit_ty (kit_is t d), h1 m1 H1 Ext.refl R1 _ (.d (.bl _))⟩
    · exact h1.elim

/-! ### len, all, any, sum, abs, .. -/
def lenG : List D → Option D
  | [.lst xs] => some (.int xs.length)
  | [.tup xs] => some (.int xs.length)
  | [.str x] => if x.length ≤ big then some (.int x.length) else none
  | [.scr xs] => some (.int xs.length)
  | _ => none
theorem RTs.one {G : Gc} {e : List Addr} {H : Hp} {d : D} {vs : List V} (r : RTs G e H [d] vs) : ∃ v, vs = [v] ∧ RT G e H d v := by
  cases r with
  | cons r t => cases t; exact ⟨_, rfl, r⟩
theorem RTs.two {G : Gc} {e : List Addr} {H : Hp} {d d' : D} {vs : List V} (r : RTs G e H [d, d'] vs) : ∃ v w, vs = [v, w] ∧ RT G e H d v ∧ RT G e H d' w := by
  cases r with
  | cons r t => cases t with
    | cons r' t => cases t; exact ⟨_, _, rfl, r, r'⟩
theorem c_len : CallR X (.builtin "len") (rC (gOf X T) lenG) := by
  intro pins s σ H vs us Q I rs ⟨ds, z, e, m, hg, tr, r, q⟩
  unfold lenG at hg
  split at hg
  · cases hg
    obtain ⟨v, rfl, r1⟩ := r.one
    obtain ⟨a, xs, rfl, h1, h2⟩ := r1.lst'
    exact call_len_seq pins s σ H _ us Q I rs ⟨a, xs, rfl, .inl (.of h1), by rw [← h2.len]; exact q _ _ Ext.refl (noKeep rfl) (.int _)⟩
  · cases hg
    obtain ⟨v, rfl, r1⟩ := r.one
    obtain ⟨a, xs, rfl, h1, h2⟩ := r1.tup
    exact call_len_seq pins s σ H _ us Q I rs ⟨a, xs, rfl, .inr h1, by rw [← h2.len]; exact q _ _ Ext.refl (noKeep rfl) (.int _)⟩
  · split at hg
    · rename_i hl
      cases hg
      obtain ⟨v, rfl, r1⟩ := r.one
      cases r1.str
      exact call_len_str pins s σ H _ us Q I rs ⟨_, rfl, big_ok hl, q _ _ Ext.refl (noKeep rfl) (.int _)⟩
    · cases hg
  · rename_i ns
    cases hg
    obtain ⟨v, rfl, r1⟩ := r.one
    obtain ⟨a, rfl, h1⟩ := r1.scr
    exact call_len_seq pins s σ H _ us Q I rs ⟨a, _, rfl, .inl h1, by rw [List.length_map]; exact q _ _ Ext.refl (noKeep rfl) (.int _)⟩
  · cases hg
/-- truths, ints of a list -/
def blsOf : List D → Option (List Bool)
  | [] => some []
  | .bl b :: ds => (blsOf ds).map (b :: ·)
  | _ => none
def intsOf : List D → Option (List Int)
  | [] => some []
  | .int b :: ds => (intsOf ds).map (b :: ·)
  | _ => none
def strsOf : List D → Option (List Str)
  | [] => some []
  | .str b :: ds => (strsOf ds).map (b :: ·)
  | _ => none
theorem RVs.bls {G : Gc} {e : List Addr} {H : Hp} : ∀ {ds : List D} {vs : List V} {bs : List Bool}, RVs G e H ds vs → blsOf ds = some bs → vs = bs.map V.bl
  | _, _, _, .nil, h => by simp [blsOf] at h; subst h; rfl
  | _, _, _, .cons r t, h => by
    unfold blsOf at h
    split at h
    · rename_i q; cases q
    · rename_i b ds q
      cases q
      obtain ⟨bs, h1, rfl⟩ := Option.map_eq_some_iff.mp h
      cases r
      rw [RVs.bls t h1]; rfl
    · cases h
theorem RVs.ints {G : Gc} {e : List Addr} {H : Hp} : ∀ {ds : List D} {vs : List V} {bs : List Int}, RVs G e H ds vs → intsOf ds = some bs → vs = bs.map V.int
  | _, _, _, .nil, h => by simp [intsOf] at h; subst h; rfl
  | _, _, _, .cons r t, h => by
    unfold intsOf at h
    split at h
    · rename_i q; cases q
    · rename_i b ds q
      cases q
      obtain ⟨bs, h1, rfl⟩ := Option.map_eq_some_iff.mp h
      cases r
      rw [RVs.ints t h1]; rfl
    · cases h
theorem RVs.strs {G : Gc} {e : List Addr} {H : Hp} : ∀ {ds : List D} {vs : List V} {bs : List Str}, RVs G e H ds vs → strsOf ds = some bs → vs = bs.map V.str
  | _, _, _, .nil, h => by simp [strsOf] at h; subst h; rfl
  | _, _, _, .cons r t, h => by
    unfold strsOf at h
    split at h
    · rename_i q; cases q
    · rename_i b ds q
      cases q
      obtain ⟨bs, h1, rfl⟩ := Option.map_eq_some_iff.mp h
      cases r
      rw [RVs.strs t h1]; rfl
    · cases h
def allB : List D → Option D
  | [.lst xs] => (blsOf xs).map fun bs => .bl (bs.all id)
  | _ => none
def anyB : List D → Option D
  | [.lst xs] => (blsOf xs).map fun bs => .bl (bs.any id)
  | _ => none
def sumG : List D → Option D
  | [.lst xs] => (intsOf xs).map fun ns => .int ns.sum
  | _ => none
def absG : List D → Option D
  | [.int i] => some (.int (if i < 0 then -i else i))
  | _ => none
theorem c_all (hc : X.calm = true) : CallR X (.builtin "all") (rC (gOf X T) allB) := by
  intro pins s σ H vs us Q I rs ⟨ds, z, e, m, hg, tr, r, q⟩
  unfold allB at hg
  split at hg
  · obtain ⟨bs, h1, rfl⟩ := Option.map_eq_some_iff.mp hg
    obtain ⟨v, rfl, r1⟩ := r.one
    obtain ⟨a, xs, rfl, g1, g2⟩ := r1.lst'
    cases g2.bls h1
    exact cr_all hc pins s σ H _ us Q I rs ⟨a, bs, rfl, .of g1, q _ _ Ext.refl (noKeep rfl) (.bl _)⟩
  · cases hg
theorem c_any (hc : X.calm = true) : CallR X (.builtin "any") (rC (gOf X T) anyB) := by
  intro pins s σ H vs us Q I rs ⟨ds, z, e, m, hg, tr, r, q⟩
  unfold anyB at hg
  split at hg
  · obtain ⟨bs, h1, rfl⟩ := Option.map_eq_some_iff.mp hg
    obtain ⟨v, rfl, r1⟩ := r.one
    obtain ⟨a, xs, rfl, g1, g2⟩ := r1.lst'
    cases g2.bls h1
    exact cr_any hc pins s σ H _ us Q I rs ⟨a, bs, rfl, .of g1, q _ _ Ext.refl (noKeep rfl) (.bl _)⟩
  · cases hg
theorem c_sum (hc : X.calm = true) : CallR X (.builtin "sum") (rC (gOf X T) sumG) := by
  intro pins s σ H vs us Q I rs ⟨ds, z, e, m, hg, tr, r, q⟩
  unfold sumG at hg
  split at hg
  · obtain ⟨bs, h1, rfl⟩ := Option.map_eq_some_iff.mp hg
    obtain ⟨v, rfl, r1⟩ := r.one
    obtain ⟨a, xs, rfl, g1, g2⟩ := r1.lst'
    cases g2.ints h1
    exact cr_sum hc pins s σ H _ us Q I rs ⟨a, bs, rfl, .of g1, q _ _ Ext.refl (noKeep rfl) (.int _)⟩
  · cases hg
theorem c_abs : CallR X (.builtin "abs") (rC (gOf X T) absG) := by
  intro pins s σ H vs us Q I rs ⟨ds, z, e, m, hg, tr, r, q⟩
  unfold absG at hg
  split at hg
  · cases hg
    obtain ⟨v, rfl, r1⟩ := r.one
    cases r1.int
    exact call_abs pins s σ H _ us Q I rs ⟨_, rfl, q _ _ Ext.refl (noKeep rfl) (.int _)⟩
  · cases hg
def intG : List D → Option D
  | [.int i] => some (.int i)
  | [.bl b] => some (.int (if b then 1 else 0))
  | [.str x] => if x.length ≤ 640 then (PySem.intText? x).map D.int else none
  | _ => none
theorem c_int : CallR X (.type "int") (rC (gOf X T) intG) := by
  intro pins s σ H vs us Q I rs ⟨ds, z, e, m, hg, tr, r, q⟩
  unfold intG at hg
  split at hg
  · cases hg
    obtain ⟨v, rfl, r1⟩ := r.one
    cases r1.int
    exact call_int1 pins s σ H _ us Q I rs (.inl ⟨_, rfl, q _ _ Ext.refl (noKeep rfl) (.int _)⟩)
  · cases hg
    obtain ⟨v, rfl, r1⟩ := r.one
    cases r1.bl
    exact call_int1 pins s σ H _ us Q I rs (.inr ⟨_, rfl, q _ _ Ext.refl (noKeep rfl) (.int _)⟩)
  · split at hg
    · rename_i hl
      obtain ⟨n, h1, rfl⟩ := Option.map_eq_some_iff.mp hg
      obtain ⟨v, rfl, r1⟩ := r.one
      cases r1.str
      exact call_int_str pins s σ H _ us Q I rs ⟨_, n, rfl, h1, hl, q _ _ Ext.refl (noKeep rfl) (.int _)⟩
    · cases hg
  · cases hg
def listG : List D → Option D
  | [.lst xs] => some (.lst xs)
  | [.tup xs] => some (.lst xs)
  | _ => none
def tupleG : List D → Option D
  | [.lst xs] => some (.tup xs)
  | [.tup xs] => some (.tup xs)
  | _ => none
theorem c_list : CallR X (.type "list") (rC (gOf X T) listG) := by
  intro pins s σ H vs us Q I rs ⟨ds, z, e, m, hg, tr, r, q⟩
  unfold listG at hg
  split at hg
  · cases hg
    obtain ⟨v, rfl, r1⟩ := r.one
    obtain ⟨a, xs, rfl, g1, g2⟩ := r1.lst'
    exact call_list_of pins s σ H _ us Q I rs ⟨a, xs, rfl, .inl (.of g1), fun l hl => q _ _ (Ext.new hl) (newKeep hl) (RV.newLst g2 hl tr)⟩
  · cases hg
    obtain ⟨v, rfl, r1⟩ := r.one
    obtain ⟨a, xs, rfl, g1, g2⟩ := r1.tup
    exact call_list_of pins s σ H _ us Q I rs ⟨a, xs, rfl, .inr g1, fun l hl => q _ _ (Ext.new hl) (newKeep hl) (RV.newLst g2 hl tr)⟩
  · cases hg
theorem c_tuple : CallR X (.type "tuple") (rC (gOf X T) tupleG) := by
  intro pins s σ H vs us Q I rs ⟨ds, z, e, m, hg, tr, r, q⟩
  unfold tupleG at hg
  split at hg
  · cases hg
    obtain ⟨v, rfl, r1⟩ := r.one
    obtain ⟨a, xs, rfl, g1, g2⟩ := r1.lst'
    exact call_tuple_of pins s σ H _ us Q I rs ⟨a, xs, rfl, .inl ⟨.of g1, fun l hl => q _ _ (Ext.new hl) (newKeep hl) (RV.newTup g2 hl tr)⟩⟩
  · cases hg
    obtain ⟨v, rfl, r1⟩ := r.one
    obtain ⟨a, xs, rfl, g1, g2⟩ := r1.tup
    exact call_tuple_of pins s σ H _ us Q I rs ⟨a, xs, rfl, .inr ⟨g1, q _ _ Ext.refl (noKeep rfl) (.tup g1 g2)⟩⟩
  · cases hg
end
end Mir

/-! Mir9: what is walked; for; while; comprehensions; cells that are forgotten. -/
namespace Mir
open PySem PySem.Spec PyProof.Rows L2 RZ
abbrev MI := Env → Sto → O (List D)
/-- J yields these data, one after another, whatever becomes of the cells -/
def Yl (G : Gc) (x m : List Addr) (H : Hp) (J : It) (ds : List D) : Prop := ∀ x2 m2 H2, (∀ b ∈ x2, b ∈ x ∨ H b = none) → Ext G m H m2 H2 → (∀ b ∈ x2 ++ m2, ∃ o, H2 b = some o) → ∀ i,
  (∀ d, ds[i]? = some d → J.go i H2 ∧ ∀ v H3, J.yld i H2 v H3 → Ext G m2 H2 m2 H3 ∧ (∀ a ∈ m2, H2 a ≠ none → H3 a = H2 a) ∧ RV G (x2 ++ m2) H3 d v) ∧ (ds.length = i → J.stop i H2)
theorem Ext.kp2 {G : Gc} {x x2 m m2 : List Addr} {H H2 : Hp} (E : Ext G m H m2 H2) (hx : ∀ b ∈ x2, b ∈ x ∨ H b = none) : Keep G (x ++ m) H (x2 ++ m2) H2 := by
  have ni : ∀ {a : Addr} {o : HO}, H a = some o → (∀ ps, o ≠ .tbl ps) → a ∉ x ++ m → a ∉ x2 ++ m2 := fun {a o} q t n z => by
    rcases List.mem_append.mp z with z | z
    · rcases hx a z with w | w
      · exact n (List.mem_append_left _ w)
      · rw [w] at q; cases q
    · exact E.notin (x := x) q t n (List.mem_append_right _ z)
  refine ⟨fun a xs h => SqT.ext E h, fun a ns h => Sc.ext E h, fun a xs h n => ⟨E.keep _ _ h (fun z => n (List.mem_append_right _ z)) (fun ps z => by cases z), ni h (fun ps z => by cases z) n⟩, fun a o t ks xs h n r => ⟨E.keep _ _ h (fun z => n (List.mem_append_right _ z)) r.notbl, ni h r.notbl n, r.ext fun a xs h => SqT.ext E h⟩⟩
def tI (G : Gc) (W : WX) (f : MI) : TI := fun σ H R => ∃ x m ρ S, Rp G x m H ρ S σ ∧ Post G W x m σ H (f ρ S) fun ds _ m' H' => ∀ J, Yl G x m' H' J ds → R J H'
section
variable {G : Gc} {x m : List Addr} {H : Hp} {a b : Addr} {ds es : List D} {xs ys : List V}
theorem yl_tup (h : SqT G.K H a xs) (r : RVs G (x ++ m) H ds xs) : Yl G x m H (Itt G.K a) ds := fun x2 m2 H2 hx E tr i => by
  have h2 := SqT.ext E h
  have r2 := r.keep (E.kp2 hx)
  refine ⟨fun d hd => ?_, fun hl => ⟨xs, h2, by rw [← r.len]; exact Nat.le_of_eq hl⟩⟩
  obtain ⟨v, q1, q2⟩ := r2.get hd
  refine ⟨⟨xs, v, h2, q1⟩, fun v' H3 ⟨e1, e2⟩ => ?_⟩
  subst e1
  have := e2 xs h2
  rw [q1] at this
  cases this
  exact ⟨Ext.refl, fun _ _ _ => rfl, q2⟩
theorem yl_lst (h : H a = some (.lst xs)) (hn : a ∉ x ++ m) (r : RVs G (x ++ m) H ds xs) : Yl G x m H (Itl G.K a) ds := fun x2 m2 H2 hx E tr i => by
  have h2 : SqL G.K H2 a xs := .of (E.keep _ _ h (fun z => hn (List.mem_append_right _ z)) (fun ps z => by cases z))
  have r2 := r.keep (E.kp2 hx)
  refine ⟨fun d hd => ?_, fun hl => ⟨xs, h2, by rw [← r.len]; exact Nat.le_of_eq hl⟩⟩
  obtain ⟨v, q1, q2⟩ := r2.get hd
  refine ⟨⟨xs, v, h2, q1⟩, fun v' H3 ⟨e1, e2⟩ => ?_⟩
  subst e1
  have := e2 xs h2
  rw [q1] at this
  cases this
  exact ⟨Ext.refl, fun _ _ _ => rfl, q2⟩
theorem yl_rng {lo : Int} {n : Nat} : Yl G x m H (Itr lo n) ((List.range n).map fun i => D.int (lo + (i : Nat))) := fun x2 m2 H2 hx E tr i => by
  refine ⟨fun d hd => ?_, fun hl => Nat.le_of_eq (by simpa using hl : n = i)⟩
  rw [List.getElem?_map] at hd
  cases q : (List.range n)[i]? with
  | none => rw [q] at hd; cases hd
  | some j =>
    rw [q] at hd
    cases hd
    have hi : i < n := by
      have := (List.getElem?_eq_some_iff.mp q).1
      simpa using this
    have hj : j = i := by
      rw [List.getElem?_range hi] at q
      exact (Option.some.inj q).symm
    subst hj
    refine ⟨hi, fun v H3 ⟨e1, e2⟩ => ?_⟩
    subst e1 e2
    exact ⟨Ext.refl, fun _ _ _ => rfl, .int _⟩
def pairs : List D → List D → List D
  | x :: xs, y :: ys => .tup [x, y] :: pairs xs ys
  | _, _ => []
theorem pairs_get : ∀ {ds es : List D} {i : Nat}, (∀ d, (pairs ds es)[i]? = some d → ∃ a b, ds[i]? = some a ∧ es[i]? = some b ∧ d = .tup [a, b]) ∧ ((pairs ds es).length ≤ i → ds.length ≤ i ∨ es.length ≤ i)
  | [], es, i => ⟨fun d h => by simp [pairs] at h, fun _ => .inl (by simp)⟩
  | d :: ds, [], i => ⟨fun d h => by simp [pairs] at h, fun _ => .inr (by simp)⟩
  | d :: ds, e :: es, 0 => ⟨fun d' h => by simp [pairs] at h; exact ⟨d, e, rfl, rfl, h.symm⟩, fun h => by simp [pairs] at h⟩
  | d :: ds, e :: es, i + 1 => by
    have := pairs_get (ds := ds) (es := es) (i := i)
    simp only [pairs, List.getElem?_cons_succ, List.length_cons, Nat.add_le_add_iff_right]
    exact this
theorem newPair {T : Addr} {v w : V} {d e : D} {H : Hp} (hT : H T = none) (tr : ∀ b ∈ x ++ m, ∃ o, H b = some o) (r1 : RV G (x ++ m) H d v) (r2 : RV G (x ++ m) H e w) :
    Ext G m H m (upd H T (.tup [v, w])) ∧ (∀ a ∈ m, H a ≠ none → upd H T (.tup [v, w]) a = H a) ∧ RV G (x ++ m) (upd H T (.tup [v, w])) (.tup [d, e]) (.ref T) :=
  ⟨Ext.new hT, fun a _ q => upd_ne fun z => q (z ▸ hT), RV.newTup (.cons r1 (.cons r2 .nil)) hT tr⟩
theorem yl_zipT (h : SqT G.K H a xs) (h' : SqT G.K H b ys) (r : RVs G (x ++ m) H ds xs) (r' : RVs G (x ++ m) H es ys) : Yl G x m H (ItzT G.K a b) (pairs ds es) := fun x2 m2 H2 hx E tr i => by
  have h2 := SqT.ext E h
  have h2' := SqT.ext E h'
  have r2 := r.keep (E.kp2 hx)
  have r2' := r'.keep (E.kp2 hx)
  refine ⟨fun d hd => ?_, fun hl => ⟨xs, ys, h2, h2', by rw [← r.len, ← r'.len]; exact pairs_get.2 (Nat.le_of_eq hl)⟩⟩
  obtain ⟨d1, d2, g1, g2, rfl⟩ := pairs_get.1 d hd
  obtain ⟨v, q1, q2⟩ := r2.get g1
  obtain ⟨v', q1', q2'⟩ := r2'.get g2
  refine ⟨⟨xs, ys, v, v', h2, h2', q1, q1'⟩, fun w H3 ⟨T, y1, y2, e1, e2, e3, e4, e5⟩ => ?_⟩
  have z1 := e4 xs h2
  have z2 := e5 ys h2'
  rw [q1] at z1
  rw [q1'] at z2
  cases z1
  cases z2
  subst e1 e3
  exact newPair e2 tr q2 q2'
theorem yl_zipL (h : H a = some (.lst xs)) (hn : a ∉ x ++ m) (h' : H b = some (.lst ys)) (hn' : b ∉ x ++ m) (r : RVs G (x ++ m) H ds xs) (r' : RVs G (x ++ m) H es ys) : Yl G x m H (Itz G.K a b) (pairs ds es) := fun x2 m2 H2 hx E tr i => by
  have h2 : SqL G.K H2 a xs := .of (E.keep _ _ h (fun z => hn (List.mem_append_right _ z)) (fun ps z => by cases z))
  have h2' : SqL G.K H2 b ys := .of (E.keep _ _ h' (fun z => hn' (List.mem_append_right _ z)) (fun ps z => by cases z))
  have r2 := r.keep (E.kp2 hx)
  have r2' := r'.keep (E.kp2 hx)
  refine ⟨fun d hd => ?_, fun hl => ⟨xs, ys, h2, h2', by rw [← r.len, ← r'.len]; exact pairs_get.2 (Nat.le_of_eq hl)⟩⟩
  obtain ⟨d1, d2, g1, g2, rfl⟩ := pairs_get.1 d hd
  obtain ⟨v, q1, q2⟩ := r2.get g1
  obtain ⟨v', q1', q2'⟩ := r2'.get g2
  refine ⟨⟨xs, ys, v, v', h2, h2', q1, q1'⟩, fun w H3 ⟨T, y1, y2, e1, e2, e3, e4, e5⟩ => ?_⟩
  have z1 := e4 xs h2
  have z2 := e5 ys h2'
  rw [q1] at z1
  rw [q1'] at z2
  cases z1
  cases z2
  subst e1 e3
  exact newPair e2 tr q2 q2'
def enums (n : Nat) : List D → List D
  | [] => []
  | d :: ds => .tup [.int (n : Nat), d] :: enums (n + 1) ds
theorem enums_get : ∀ {ds : List D} {n i : Nat}, (∀ d, (enums n ds)[i]? = some d → ∃ a, ds[i]? = some a ∧ d = .tup [.int ((n + i : Nat) : Int), a])
  | [], n, i, d, h => by simp [enums] at h
  | d :: ds, n, 0, d', h => by simp [enums] at h; exact ⟨d, rfl, h.symm⟩
  | d :: ds, n, i + 1, d', h => by
    obtain ⟨a, h1, h2⟩ := enums_get (ds := ds) (n := n + 1) (i := i) d' (by simpa [enums] using h)
    exact ⟨a, by simpa using h1, by rw [h2, show n + 1 + i = n + (i + 1) by omega]⟩
theorem enums_len : ∀ {ds : List D} {n : Nat}, (enums n ds).length = ds.length
  | [], n => rfl
  | d :: ds, n => by simp [enums, enums_len (ds := ds)]
theorem yl_enumL (h : H a = some (.lst xs)) (hn : a ∉ x ++ m) (r : RVs G (x ++ m) H ds xs) : Yl G x m H (Ite G.K a) (enums 0 ds) := fun x2 m2 H2 hx E tr i => by
  have h2 : SqL G.K H2 a xs := .of (E.keep _ _ h (fun z => hn (List.mem_append_right _ z)) (fun ps z => by cases z))
  have r2 := r.keep (E.kp2 hx)
  refine ⟨fun d hd => ?_, fun hl => ⟨xs, h2, by rw [← r.len, ← enums_len (n := 0)]; exact Nat.le_of_eq hl⟩⟩
  obtain ⟨d1, g1, rfl⟩ := enums_get d hd
  obtain ⟨v, q1, q2⟩ := r2.get g1
  refine ⟨⟨xs, v, h2, q1⟩, fun w H3 ⟨T, y1, e1, e2, e3, e4⟩ => ?_⟩
  have z1 := e4 xs h2
  rw [q1] at z1
  cases z1
  subst e1 e3
  rw [Nat.zero_add]
  exact newPair e2 tr (.int _) q2
end

/-! ### the walked expressions -/
def seqI (f : ME) : MI := fun ρ S => (f ρ S).bind fun u S1 => match u with
  | .d (.tup xs) => .ok xs S1
  | .d (.lst xs) => .ok xs S1
  | _ => .un
def rng1I (f : ME) : MI := fun ρ S => (argsM [f] ρ S).bind fun us S1 => match us with
  | [.d (.int n)] => if n ≤ 1000000 ∧ -1000000 ≤ n then .ok ((List.range n.toNat).map fun i => .int (0 + (i : Nat))) S1 else .un
  | _ => .un
def rng2I (f g : ME) : MI := fun ρ S => (argsM [f, g] ρ S).bind fun us S1 => match us with
  | [.d (.int l), .d (.int n)] => if n ≤ 1000000 ∧ -1000000 ≤ n ∧ l ≤ 1000000 ∧ -1000000 ≤ l then .ok ((List.range (n - l).toNat).map fun i => .int (l + (i : Nat))) S1 else .un
  | _ => .un
def zipI (f g : ME) : MI := fun ρ S => (argsM [f, g] ρ S).bind fun us S1 => match us with
  | [.d (.tup xs), .d (.tup ys)] => .ok (pairs xs ys) S1
  | [.d (.lst xs), .d (.lst ys)] => .ok (pairs xs ys) S1
  | _ => .un
def enuI (f : ME) : MI := fun ρ S => (argsM [f] ρ S).bind fun us S1 => match us with
  | [.d (.lst xs)] => .ok (enums 0 xs) S1
  | _ => .un
theorem pi_mono {X : Cx} {tg e : Expr} {t t' : TI} (h : PI X tg e t) (q : ∀ σ H R, t' σ H R → t σ H R) : PI X tg e t' := ⟨fun pins s σ H R I w => h.run pins s σ H R I (q σ H R w)⟩
section
variable {X : Cx} {T : List (Addr × Str)} {W : WX} {tg e e2 : Expr} {es : List Expr} {f g : ME} {fs : List ME} {p pos : Pos}
theorem i_seq (he : PE X e (tE (gOf X T) W f)) : PI X tg e (tI (gOf X T) W (seqI f)) := ⟨fun pins s σ H R I h => by
  obtain ⟨x, m, ρ, S, p, h⟩ := h
  have h1 := Post.bind h
  cases q : f ρ S with
  | un => rw [q] at h1; exact h1.elim
  | ex ee S' =>
    refine (pi_tup he).run pins s σ H R I ⟨x, m, ρ, S, p, ?_⟩
    rw [q] at h1 ⊢
    exact h1
  | ok u S' =>
    rw [q] at h1
    cases u with
    | c i => exact (pi_tup he).run pins s σ H R I ⟨x, m, ρ, S, p, by rw [q]; exact fun m' H' E r => (h1 m' H' E r).2.2.elim⟩
    | d d =>
      cases d with
      | tup xs =>
        refine (pi_tup he).run pins s σ H R I ⟨x, m, ρ, S, p, ?_⟩
        rw [q]
        intro m1 H1 E1 R1 v rv
        cases rv with
        | d rv => cases rv with
          | tup t1 t2 => exact ⟨_, rfl, ⟨_, t1⟩, (h1 m1 H1 E1 R1).2.2 m1 H1 Ext.refl R1 _ (yl_tup t1 t2)⟩
      | lst xs =>
        refine (pi_list he).run pins s σ H R I ⟨x, m, ρ, S, p, ?_⟩
        rw [q]
        intro m1 H1 E1 R1 v rv
        cases rv with
        | d rv => cases rv with
          | lst t1 tn t2 => exact ⟨_, rfl, ⟨_, .of t1⟩, (h1 m1 H1 E1 R1).2.2 m1 H1 Ext.refl R1 _ (yl_lst t1 tn t2)⟩
      | _ => exact (pi_tup he).run pins s σ H R I ⟨x, m, ρ, S, p, by rw [q]; exact fun m' H' E r => (h1 m' H' E r).2.2.elim⟩⟩
theorem RUs.i1 {G : Gc} {e m : List Addr} {H : Hp} {i : Int} {vs : List V} (r : RUs G e m H [.d (.int i)] vs) : vs = [.int i] := by
  cases r with
  | cons r t => cases t; cases r with
    | d r => cases r; rfl
theorem RUs.i2 {G : Gc} {e m : List Addr} {H : Hp} {i j : Int} {vs : List V} (r : RUs G e m H [.d (.int i), .d (.int j)] vs) : vs = [.int i, .int j] := by
  cases r with
  | cons r t => cases t with
    | cons r' t => cases t; cases r with
      | d r => cases r; cases r' with
        | d r => cases r; rfl
theorem i_rng1 (hm : X.mg "range" = none) (ha : PA X [e] (tA (gOf X T) W (argsM [f]))) (hg : Gl X "range" := by rfl) (hs : starEach [e] X.env = [(false, eval e X.env)] := by rfl) : PI X tg (.Call (.Name "range" p) [e] [] pos) (tI (gOf X T) W (rng1I f)) :=
  pi_mono (pi_range1 hg hm ha hs) fun σ H R h => by
    obtain ⟨x, m, ρ, S, p, h⟩ := h
    refine ⟨x, m, ρ, S, p, (Post.bind h).mono fun us S1 m1 H1 E1 R1 ⟨_, _, h1⟩ vs rvs => ?_⟩
    split at h1
    · split at h1
      · rename_i hb
        exact ⟨_, rvs.i1, by omega, by omega, h1 m1 H1 Ext.refl R1 _ yl_rng⟩
      · exact h1.elim
    · exact h1.elim
theorem i_rng2 (hm : X.mg "range" = none) (ha : PA X [e, e2] (tA (gOf X T) W (argsM [f, g]))) (hg : Gl X "range" := by rfl) (hs : starEach [e, e2] X.env = [(false, eval e X.env), (false, eval e2 X.env)] := by rfl) (hs2 : starEach [e2] X.env = [(false, eval e2 X.env)] := by rfl) : PI X tg (.Call (.Name "range" p) [e, e2] [] pos) (tI (gOf X T) W (rng2I f g)) :=
  pi_mono (pi_range2 hg hm ha hs hs2) fun σ H R h => by
    obtain ⟨x, m, ρ, S, p, h⟩ := h
    refine ⟨x, m, ρ, S, p, (Post.bind h).mono fun us S1 m1 H1 E1 R1 ⟨_, _, h1⟩ vs rvs => ?_⟩
    split at h1
    · split at h1
      · rename_i hb
        exact ⟨_, _, rvs.i2, ⟨by omega, by omega, by omega, by omega⟩, h1 m1 H1 Ext.refl R1 _ yl_rng⟩
      · exact h1.elim
    · exact h1.elim
theorem i_zip {elts : List Expr} {kk : Nat} {tpos : Pos} (hm : X.mg "zip" = none) (ha : PA X [e, e2] (tA (gOf X T) W (argsM [f, g]))) (hg : Gl X "zip" := by rfl) (hs : starEach [e, e2] X.env = (false, eval e X.env) :: starEach [e2] X.env := by rfl) (hpl : (backTo pos (starEach [e2] X.env)).any (·.1) = false := by rfl) :
    PI X (.Tuple elts kk tpos) (.Call (.Name "zip" p) [e, e2] [] pos) (tI (gOf X T) W (zipI f g)) := pi_mono (pi_zipA hg hm ha hs hpl) fun σ H R h => by
  obtain ⟨x, m, ρ, S, p, h⟩ := h
  refine ⟨x, m, ρ, S, p, (Post.bind h).mono fun us S1 m1 H1 E1 R1 ⟨_, _, h1⟩ vs rvs => ?_⟩
  split at h1
  · cases rvs with
    | cons r t => cases t with
      | cons r' t => cases t; cases r with
        | d r => cases r with
          | tup t1 t2 => cases r' with
            | d r' => cases r' with
              | tup t3 t4 => exact ⟨_, _, _, _, rfl, .inr ⟨t1, t3, h1 m1 H1 Ext.refl R1 _ (yl_zipT t1 t3 t2 t4)⟩⟩
  · cases rvs with
    | cons r t => cases t with
      | cons r' t => cases t; cases r with
        | d r => cases r with
          | lst t1 n1 t2 => cases r' with
            | d r' => cases r' with
              | lst t3 n3 t4 => exact ⟨_, _, _, _, rfl, .inl ⟨.of t1, .of t3, h1 m1 H1 Ext.refl R1 _ (yl_zipL t1 n1 t3 n3 t2 t4)⟩⟩
  · exact h1.elim
theorem i_enu {elts : List Expr} {kk : Nat} {tpos : Pos} (hm : X.mg "enumerate" = none) (ha : PA X [e] (tA (gOf X T) W (argsM [f]))) (hg : Gl X "enumerate" := by rfl) (hs : starEach [e] X.env = [(false, eval e X.env)] := by rfl) :
    PI X (.Tuple elts kk tpos) (.Call (.Name "enumerate" p) [e] [] pos) (tI (gOf X T) W (enuI f)) := pi_mono (pi_enum hg hm ha hs) fun σ H R h => by
  obtain ⟨x, m, ρ, S, p, h⟩ := h
  refine ⟨x, m, ρ, S, p, (Post.bind h).mono fun us S1 m1 H1 E1 R1 ⟨_, _, h1⟩ vs rvs => ?_⟩
  split at h1
  · cases rvs with
    | cons r t => cases t; cases r with
      | d r => cases r with
        | lst t1 n1 t2 => exact ⟨_, _, rfl, .of t1, h1 m1 H1 Ext.refl R1 _ (yl_enumL t1 n1 t2)⟩
  · exact h1.elim
end
end Mir

/-! Mir10: for, while, comprehensions, cells that are forgotten. -/
namespace Mir
open PySem PySem.Spec PyProof.Rows L2 RZ
/-! ### for -/
def forL (g : MG) (f : MS) : List D → MS
  | [], ρ, S => .nx ρ S
  | d :: ds, ρ, S => match g (.d d) ρ S with
    | none => .un
    | some q => match f q.1 q.2 with
      | .nx ρ' S' => forL g f ds ρ' S'
      | .ct ρ' S' => forL g f ds ρ' S'
      | .bk ρ' S' => .nx ρ' S'
      | o => o
def forM (it : MI) (g : MG) (f : MS) : MS := fun ρ S => match it ρ S with
  | .ok ds S' => forL g f ds ρ S'
  | .ex e S' => .ex e ρ S'
  | .un => .un
/-- one turn of a while, n turns at most -/
def whN (t : MT) (f : MS) : Nat → MS
  | 0, _, _ => .un
  | n + 1, ρ, S => match t ρ S with
    | .ok true S' => match f ρ S' with
      | .nx ρ' S'' => whN t f n ρ' S''
      | .ct ρ' S'' => whN t f n ρ' S''
      | .bk ρ' S'' => .nx ρ' S''
      | o => o
    | .ok false S' => .nx ρ S'
    | .ex e S' => .ex e ρ S'
    | .un => .un
open Classical in
noncomputable def whM (t : MT) (f : MS) : MS := fun ρ S => if h : ∃ n, whN t f n ρ S ≠ .un then whN t f (Classical.choose h) ρ S else .un
theorem whN_more {t : MT} {f : MS} : ∀ {n k : Nat} {ρ : Env} {S : Sto}, whN t f n ρ S ≠ .un → whN t f (n + k) ρ S = whN t f n ρ S
  | 0, k, ρ, S, h => (h rfl).elim
  | n + 1, k, ρ, S, h => by
    rw [show n + 1 + k = n + k + 1 by omega]
    unfold whN at h ⊢
    split
    · rename_i S' q
      rw [q] at h
      dsimp only at h
      split
      · rename_i q2
        rw [q2] at h
        exact whN_more h
      · rename_i q2
        rw [q2] at h
        exact whN_more h
      · rfl
      · rfl
    · rfl
    · rfl
    · rfl
theorem whM_eq {t : MT} {f : MS} {n : Nat} {ρ : Env} {S : Sto} (h : whN t f n ρ S ≠ .un) : whM t f ρ S = whN t f n ρ S := by
  unfold whM
  have e : ∃ n, whN t f n ρ S ≠ .un := ⟨n, h⟩
  rw [dif_pos e]
  have h2 := Classical.choose_spec e
  rcases Nat.le_total n (Classical.choose e) with q | q
  · obtain ⟨k, hk⟩ := Nat.le.dest q
    rw [← hk, whN_more h]
  · obtain ⟨k, hk⟩ := Nat.le.dest q
    have := whN_more (k := k) h2
    rw [hk] at this
    exact this.symm
section
variable {X : Cx} {T : List (Addr × Str)} {W : WX} {tg iter c : Expr} {body : List Stmt} {gt : MG} {f : MS} {fi : MI} {tc : MT} {pos : Pos}
theorem s_for (hp : PassesOwn (model X.prog X.w) X.A X.env X.xe) (hc : X.calm = true) (hi : PI X tg iter (tI (gOf X T) W fi)) (hg : PG X tg (tG (gOf X T) W gt)) (hb : PSs X body (tS (gOf X T) W f))
    (hs : ∀ x, foldedSetIterable iter X.env x = pure x := by intro _; rfl) : PS X (.For tg iter body [] pos) (tS (gOf X T) W (forM fi gt f)) := ps_mono (ps_for hp hc hi hg hb hs) fun Dn σ H h => by
  obtain ⟨x, m, ρ, S, p, h⟩ := h
  cases q : fi ρ S with
  | un => simp only [forM, q] at h; exact h.elim
  | ex ee S' =>
    refine ⟨x, m, ρ, S, p, ?_⟩
    simp only [forM, q] at h
    rw [q]
    exact fun m' H' cls d E R rx => h m' H' σ cls d E (p.ext E R) rx
  | ok ds S' =>
    refine ⟨x, m, ρ, S, p, ?_⟩
    simp only [forM, q] at h
    rw [q]
    intro m1 H1 E1 R1 J hJ
    have h := PostS.shift E1 h
    have p1 := p.ext E1 R1
    refine ⟨fun i k σ2 H2 => ∃ m2 ρ2 S2, k = ds.length - i ∧ i ≤ ds.length ∧ Ext (gOf X T) m1 H1 m2 H2 ∧ Rp (gOf X T) x m2 H2 ρ2 S2 σ2 ∧ PostS (gOf X T) W x m2 H2 (forL gt f (ds.drop i) ρ2 S2) Dn,
      ⟨ds.length, m1, ρ, S', by simp, Nat.zero_le _, Ext.refl, p1, by rw [List.drop_zero]; exact h⟩, ?_⟩
    rintro i k σ2 H2 ⟨m2, ρ2, S2, rfl, hi', E2, p2, h2⟩
    have hy := hJ x m2 H2 (fun b hb => .inl hb) E2 p2.trk i
    by_cases hl : i < ds.length
    · obtain ⟨hgo, hyl⟩ := hy.1 ds[i] (List.getElem?_eq_getElem hl)
      rw [List.drop_eq_getElem_cons hl] at h2
      refine .inr ⟨hgo, fun σ3 H3 => ∃ m3 ρ3 S3, Ext (gOf X T) m1 H1 m3 H3 ∧ Rp (gOf X T) x m3 H3 ρ3 S3 σ3 ∧ PostS (gOf X T) W x m3 H3 (forL gt f (ds.drop (i + 1)) ρ3 S3) Dn, ?_, ?_⟩
      · rintro σ3 H3 ⟨m3, ρ3, S3, E3, p3, h3⟩
        exact ⟨ds.length - (i + 1), by omega, m3, ρ3, S3, rfl, hl, E3, p3, h3⟩
      · intro v H3 yv
        obtain ⟨E3, k3, r3⟩ := hyl v H3 yv
        have R3 : RS (gOf X T) (x ++ m2) m2 H3 S2 := p2.sto.stay E3 fun a ha => k3 a ha (by obtain ⟨o, q⟩ := p2.sto.live ha; rw [q]; simp)
        have p3 := p2.ext E3 R3
        refine ⟨x, m2, ρ2, S2, .d ds[i], p3, .d r3, ?_⟩
        simp only [forL] at h2
        cases q3 : gt (.d ds[i]) ρ2 S2 with
        | none => rw [q3] at h2; exact h2.elim
        | some q4 =>
          rw [q3] at h2
          refine fun m4 H4 σ4 E4 p4 => ⟨x, m4, q4.1, q4.2, p4, ?_⟩
          have h2 := PostS.shift (E3.trans E4) h2
          have E14 := (E2.trans E3).trans E4
          dsimp only at h2
          cases q5 : f q4.1 q4.2 with
          | nx ρ5 S5 =>
            rw [q5] at h2
            exact fun m5 H5 σ5 E5 p5 => ⟨m5, ρ5, S5, E14.trans E5, p5, PostS.shift E5 h2⟩
          | ct ρ5 S5 =>
            rw [q5] at h2
            exact fun m5 H5 σ5 E5 p5 => ⟨m5, ρ5, S5, E14.trans E5, p5, PostS.shift E5 h2⟩
          | bk ρ5 S5 => rw [q5] at h2; exact h2
          | rt u S5 => rw [q5] at h2; exact h2
          | ex ee ρ5 S5 => rw [q5] at h2; exact h2
          | un => rw [q5] at h2; exact h2
    · have e : i = ds.length := by omega
      refine .inl ⟨hy.2 (by omega), ?_⟩
      rw [e, List.drop_length] at h2
      exact h2 m2 H2 σ2 Ext.refl p2
theorem s_while (hp : PassesOwn (model X.prog X.w) X.A X.env X.xe) (hc : PT X c (tT (gOf X T) W tc)) (hb : PSs X body (tS (gOf X T) W f)) : PS X (.While c body [] pos) (tS (gOf X T) W (whM tc f)) := ps_mono (ps_while hp hc hb) fun Dn σ H h => by
  obtain ⟨x, m, ρ, S, p, h⟩ := h
  have hn : ∃ n, PostS (gOf X T) W x m H (whN tc f n ρ S) Dn := by
    unfold whM at h
    split at h
    · exact ⟨_, h⟩
    · exact h.elim
  obtain ⟨n, h⟩ := hn
  refine ⟨fun k σ2 H2 => ∃ m2 ρ2 S2, Rp (gOf X T) x m2 H2 ρ2 S2 σ2 ∧ PostS (gOf X T) W x m2 H2 (whN tc f k ρ2 S2) Dn, ⟨n, m, ρ, S, p, h⟩, ?_⟩
  rintro k σ2 H2 ⟨m2, ρ2, S2, p2, h2⟩
  refine ⟨x, m2, ρ2, S2, p2, ?_⟩
  cases k with
  | zero => exact h2.elim
  | succ k =>
    unfold whN at h2
    cases q : tc ρ2 S2 with
    | un => rw [q] at h2; exact h2
    | ex ee S' => rw [q] at h2; exact fun m' H' cls d E R rx => h2 m' H' σ2 cls d E (p2.ext E R) rx
    | ok b S' =>
      rw [q] at h2
      intro m3 H3 E3 R3
      have p3 := p2.ext E3 R3
      have h2 := PostS.shift E3 h2
      cases b with
      | false => exact iteF (h2 m3 H3 σ2 Ext.refl p3)
      | true =>
        refine iteT ⟨fun σ4 H4 => ∃ m4 ρ4 S4, Rp (gOf X T) x m4 H4 ρ4 S4 σ4 ∧ PostS (gOf X T) W x m4 H4 (whN tc f k ρ4 S4) Dn, fun σ4 H4 ⟨m4, ρ4, S4, p4, h4⟩ => ⟨k, Nat.lt_succ_self _, m4, ρ4, S4, p4, h4⟩, x, m3, ρ2, S', p3, ?_⟩
        dsimp only at h2
        cases q5 : f ρ2 S' with
        | nx ρ5 S5 => rw [q5] at h2; exact fun m5 H5 σ5 E5 p5 => ⟨m5, ρ5, S5, p5, PostS.shift E5 h2⟩
        | ct ρ5 S5 => rw [q5] at h2; exact fun m5 H5 σ5 E5 p5 => ⟨m5, ρ5, S5, p5, PostS.shift E5 h2⟩
        | bk ρ5 S5 => rw [q5] at h2; exact h2
        | rt u S5 => rw [q5] at h2; exact h2
        | ex ee ρ5 S5 => rw [q5] at h2; exact h2
        | un => rw [q5] at h2; exact h2
end

/-! ### cells that are forgotten -/
def wipeE (ρ : Env) : List Nat → Env
  | [] => ρ
  | i :: is => wipeE (ρ.set i none) is
def lowU (n : Nat) : Option U → Bool
  | some (.c i) => decide (i < n)
  | _ => true
def scpM (dead : List Nat) (f : MS) : MS := fun ρ S => match f ρ S with
  | .nx ρ' S' => if (wipeE ρ' dead).all (lowU S.length) then .nx (wipeE ρ' dead) (S'.take S.length) else .un
  | .ct ρ' S' => if (wipeE ρ' dead).all (lowU S.length) then .ct (wipeE ρ' dead) (S'.take S.length) else .un
  | o => o
section
variable {G : Gc} {x m m' : List Addr} {H H' : Hp}
theorem RE.wipe {e : List Addr} : ∀ (is : List Nat) {ρ : Env} {σ : St}, RE G e m H ρ σ → RE G e m H (wipeE ρ is) σ
  | [], _, _, r => r
  | i :: is, _, _, r => RE.wipe is (RE.wipe1 i r)
theorem RE.low {n : Nat} : ∀ {ρ : Env} {σ : St}, RE G (x ++ m) m H ρ σ → ρ.all (lowU n) = true → RE G (x ++ m.take n) (m.take n) H ρ σ
  | _, _, .nil, _ => .nil
  | _, _, .em t, h => .em (RE.low t (by simpa [lowU] using h))
  | _, _, .cns r t, h => by
    rw [List.all_cons, Bool.and_eq_true] at h
    refine .cns ?_ (RE.low t h.2)
    cases r with
    | d r => exact .d (r.keep (keep_sub fun a ha => by
        rcases List.mem_append.mp ha with z | z
        · exact List.mem_append_left _ z
        · exact List.mem_append_right _ (List.mem_of_mem_take z)))
    | @c i a ha =>
      have hi : i < n := by simpa [lowU] using h.1
      exact .c (by rw [List.getElem?_take_of_lt hi]; exact ha)
theorem Rp.low {n : Nat} {ρ : Env} {S : Sto} {σ : St} (p : Rp G x m H ρ S σ) (h : ρ.all (lowU n) = true) : Rp G x (m.take n) H ρ (S.take n) σ := by
  refine ⟨p.env.low h, ⟨by rw [List.length_take, List.length_take, p.sto.len], p.sto.nd.sublist (List.take_sublist _ _), fun b hb => List.mem_append_right _ hb, fun i a c h1 h2 => ?_⟩, p.ex, p.tab⟩
  have hi : i < n := by
    by_cases q : i < n
    · exact q
    · rw [List.getElem?_take_eq_none (by omega)] at h1; cases h1
  rw [List.getElem?_take_of_lt hi] at h1 h2
  obtain ⟨o, q1, q2⟩ := p.sto.at' i a c h1 h2
  exact ⟨o, q1, q2.keep (keep_sub fun a ha => by
    rcases List.mem_append.mp ha with z | z
    · exact List.mem_append_left _ z
    · exact List.mem_append_right _ (List.mem_of_mem_take z)) fun _ _ z => z⟩
theorem Ext.take {S : Sto} {e : List Addr} (E : Ext G m H m' H') (r : RS G e m H S) : Ext G m H (m'.take S.length) H' := by
  obtain ⟨nw, e1, f1⟩ := E.pre
  refine ⟨E.keep, E.tups, E.frzs, E.owns, E.live, ⟨[], ?_, fun _ z => by cases z⟩, E.tab⟩
  rw [e1, ← r.len, List.take_left', List.append_nil]
  rfl
end
section
variable {X : Cx} {T : List (Addr × Str)} {W : WX} {body : List Stmt} {f : MS}
theorem s_scp (dead : List Nat) (hb : PSs X body (tS (gOf X T) W f)) : PSs X body (tS (gOf X T) W (scpM dead f)) := pss_mono hb fun Dn σ H h => by
  obtain ⟨x, m, ρ, S, p, h⟩ := h
  refine ⟨x, m, ρ, S, p, ?_⟩
  unfold scpM at h
  cases q : f ρ S with
  | nx ρ' S' =>
    rw [q] at h
    dsimp only at h
    split at h
    · rename_i hl
      intro m' H' σ' E1 p1
      have p2 : Rp (gOf X T) x m' H' (wipeE ρ' dead) S' σ' := ⟨p1.env.wipe dead, p1.sto, p1.ex, p1.tab⟩
      exact h (m'.take S.length) H' σ' (E1.take p.sto) (p2.low hl)
    · exact h.elim
  | ct ρ' S' =>
    rw [q] at h
    dsimp only at h
    split at h
    · rename_i hl
      intro m' H' σ' E1 p1
      have p2 : Rp (gOf X T) x m' H' (wipeE ρ' dead) S' σ' := ⟨p1.env.wipe dead, p1.sto, p1.ex, p1.tab⟩
      exact h (m'.take S.length) H' σ' (E1.take p.sto) (p2.low hl)
    · exact h.elim
  | rt u S' => rw [q] at h; exact h
  | bk ρ' S' => rw [q] at h; exact h
  | ex e ρ' S' => rw [q] at h; exact h
  | un => rw [q] at h; exact h
end
end Mir

/-! Mir11: list comprehensions. -/
namespace Mir
open PySem PySem.Spec PyProof.Rows L2 RZ
inductive Tg where
  | one (i : Nat) | many (is : List Nat)
def Tg.ix : Tg → List Nat
  | .one i => [i]
  | .many is => is
def setMany : List Nat → List D → Env → Option Env
  | [], [], ρ => some ρ
  | i :: is, d :: ds, ρ => setMany is ds (ρ.set i (some (.d d)))
  | _, _, _ => none
def setT : Tg → D → Env → Option Env
  | .one i, d, ρ => some (ρ.set i (some (.d d)))
  | .many is, .tup ds, ρ => setMany is ds ρ
  | _, _, _ => none
def gNames : List Nat → TGs
  | [] => gNil
  | i :: is => gCons (gName i) (gNames is)
def gT (K : PySem.W.Frag) : Tg → TG
  | .one i => gName i
  | .many is => gTup K is.length (gNames is)
/-- a list made by a comprehension: t tests, f makes -/
def lcL (tg : Tg) (t : MT) (f : ME) (ρ0 : Env) : List D → Sto → O (List D)
  | [], S => .ok [] S
  | d :: ds, S => match setT tg d ρ0 with
    | none => .un
    | some ρ => match t ρ S with
      | .ok true S1 => match f ρ S1 with
        | .ok (.d y) S2 => match lcL tg t f ρ0 ds S2 with
          | .ok ys S3 => .ok (y :: ys) S3
          | _ => .un
        | _ => .un
      | .ok false S1 => lcL tg t f ρ0 ds S1
      | _ => .un
def lcM (it : MI) (tg : Tg) (t : MT) (f : ME) (own : List Nat) : ME := fun ρ S => (it ρ S).bind fun ds S1 =>
  if ds.length ≤ big then match lcL tg t f (wipeE ρ own) ds S1 with
    | .ok ys S2 => .ok (.d (.lst ys)) S2
    | _ => .un
  else .un
def yesM : MT := fun _ S => .ok true S
abbrev WF : WX := fun _ _ _ _ => False

section
variable {G : Gc} {e m x : List Addr} {H : Hp}
theorem wipe_set {own : List Nat} {i : Nat} {o : Option V} : ∀ {σ : St}, i ∈ own → L2.wipe (σ.set i o) own = L2.wipe σ own := by
  intro σ h
  have key : ∀ (own : List Nat) (σ : St) (i : Nat) (o : Option V), L2.wipe (σ.set i o) own = if i ∈ own then L2.wipe σ own else (L2.wipe σ own).set i o := by
    intro own
    induction own with
    | nil => intro σ i o; simp [L2.wipe]
    | cons v vs ih =>
      intro σ i o
      unfold L2.wipe
      rw [ih σ i o]
      by_cases h1 : i ∈ vs
      · rw [if_pos h1, if_pos (List.mem_cons_of_mem _ h1)]
      · rw [if_neg h1]
        by_cases h2 : i = v
        · subst h2
          rw [if_pos List.mem_cons_self, List.set_set]
        · rw [if_neg (by simp [h1, h2]), List.set_comm _ _ h2]
  rw [key, if_pos h]
theorem many_ok : ∀ {is : List Nat} {ds : List D} {vs : List V} {ρ ρ' : Env} {σ : St} {own : List Nat} {Q : St → Hp → Prop}, RVs G e H ds vs → RE G e m H ρ σ → setMany is ds ρ = some ρ' → (∀ i ∈ is, i ∈ own) →
    (∀ σ', RE G e m H ρ' σ' → L2.wipe σ' own = L2.wipe σ own → Q σ' H) → gNames is vs σ H Q
  | [], [], _, ρ, ρ', σ, own, Q, .nil, re, h, _, q => by
    cases h
    exact ⟨rfl, q σ re rfl⟩
  | i :: is, d :: ds, _, ρ, ρ', σ, own, Q, .cons r t, re, h, ho, q =>
    ⟨_, _, rfl, many_ok t (RE.set (.d r) i re) h (fun j hj => ho j (List.mem_cons_of_mem _ hj)) fun σ' re' hw => q σ' re' (by rw [hw, wipe_set (ho i List.mem_cons_self)])⟩
  | [], _ :: _, _, _, _, _, _, _, _, _, h, _, _ => by simp [setMany] at h
  | _ :: _, [], _, _, _, _, _, _, _, _, h, _, _ => by simp [setMany] at h
theorem setMany_len : ∀ {is : List Nat} {ds : List D} {ρ ρ' : Env}, setMany is ds ρ = some ρ' → ds.length = is.length
  | [], [], _, _, _ => rfl
  | i :: is, d :: ds, _, _, h => by simp [setMany_len (is := is) (ds := ds) h]
  | [], _ :: _, _, _, h => by simp [setMany] at h
  | _ :: _, [], _, _, h => by simp [setMany] at h
theorem tg_ok {tg : Tg} {d : D} {v : V} {ρ ρ' : Env} {σ : St} {own : List Nat} {Q : St → Hp → Prop} (r : RV G e H d v) (re : RE G e m H ρ σ) (h : setT tg d ρ = some ρ') (ho : ∀ i ∈ tg.ix, i ∈ own)
    (q : ∀ σ', RE G e m H ρ' σ' → L2.wipe σ' own = L2.wipe σ own → Q σ' H) : gT G.K tg v σ H Q := by
  cases tg with
  | one i =>
    cases h
    exact q _ (RE.set (.d r) i re) (wipe_set (ho i (by simp [Tg.ix])))
  | many is =>
    cases r with
    | tup h1 h2 => exact ⟨_, _, rfl, h1, by rw [← h2.len]; exact setMany_len h, many_ok h2 re h ho q⟩
    | _ => simp [setT] at h
theorem RE.wipeS {e m : List Addr} : ∀ (is : List Nat) {ρ : Env} {σ : St}, RE G e m H ρ σ → RE G e m H (wipeE ρ is) (L2.wipe σ is) := by
  have one : ∀ {ρ : Env} {σ : St} (i : Nat), RE G e m H ρ σ → RE G e m H (ρ.set i none) (σ.set i none) := by
    intro ρ σ i r
    induction r generalizing i with
    | nil => exact .nil
    | em t ih => cases i with
      | zero => exact .em t
      | succ i => exact .em (ih i)
    | cns r t ih => cases i with
      | zero => exact .em t
      | succ i => exact .cns r (ih i)
  have two : ∀ (is : List Nat) (i : Nat) (ρ : Env), (wipeE ρ is).set i none = wipeE (ρ.set i none) is := by
    intro is
    induction is with
    | nil => intro i ρ; rfl
    | cons j is ih =>
      intro i ρ
      unfold wipeE
      rw [ih]
      by_cases h : i = j
      · subst h; rfl
      · rw [List.set_comm _ _ h]
  intro is
  induction is with
  | nil => intro ρ σ r; exact r
  | cons i is ih =>
    intro ρ σ r
    unfold L2.wipe wipeE
    rw [← two]
    exact one i (ih r)
/-- the list that grows is kept apart -/
theorem Keep.hide {D₀ : Addr} {o : HO} (h : H D₀ = none) : Keep G e H (D₀ :: e) (upd H D₀ o) := by
  have ni : ∀ {a : Addr} {u : HO}, H a = some u → a ∉ e → a ∉ D₀ :: e := fun {a u} q n z => by
    rcases List.mem_cons.mp z with z | z
    · rw [z, h] at q; cases q
    · exact n z
  refine ⟨fun a xs q => sqt_new h q, fun a ns q => Sc.ext (G := G) (m := []) (m' := []) (Ext.new h) q, fun a xs q n => ⟨by rw [upd_ne (ne_of_none q h)]; exact q, ni q n⟩, fun a u t ks xs q n r => ⟨by rw [upd_ne (ne_of_none q h)]; exact q, ni q n, r.ext fun _ _ z => sqt_new h z⟩⟩
theorem Keep.grow {D₀ : Addr} {acc acc' : List V} (h : H D₀ = some (.lst acc)) (hd : D₀ ∈ e) : Keep G e H e (upd H D₀ (.lst acc')) := by
  have ne : ∀ {a : Addr}, a ∉ e → a ≠ D₀ := fun {a} n z => n (z ▸ hd)
  refine ⟨fun a xs q => ?_, fun a xs q => ?_, fun a xs q n => ⟨by rw [upd_ne (ne n)]; exact q, n⟩, fun a u t ks xs q n r => ⟨by rw [upd_ne (ne n)]; exact q, n, r.ext fun b ys z => ?_⟩⟩
  · rcases q with (q | ⟨o, q⟩) | q
    · exact .inl (.inl (by rw [upd_ne (fun z => by rw [z, h] at q; cases q)]; exact q))
    · exact .inl (.inr ⟨o, by rw [upd_ne (fun z => by rw [z, h] at q; cases q)]; exact q⟩)
    · exact .inr q
  · rcases q with ⟨o, q⟩ | q
    · exact .inl ⟨o, by rw [upd_ne (fun z => by rw [z, h] at q; cases q)]; exact q⟩
    · exact .inr q
  · rcases z with (q | ⟨o, q⟩) | q
    · exact .inl (.inl (by rw [upd_ne (fun z => by rw [z, h] at q; cases q)]; exact q))
    · exact .inl (.inr ⟨o, by rw [upd_ne (fun z => by rw [z, h] at q; cases q)]; exact q⟩)
    · exact .inr q
theorem RE.keep {m : List Addr} {e' : List Addr} {H' : Hp} (k : Keep G e H e' H') : ∀ {ρ : Env} {σ : St}, RE G e m H ρ σ → RE G e' m H' ρ σ
  | _, _, .nil => .nil
  | _, _, .em t => .em (RE.keep k t)
  | _, _, .cns r t => .cns (by cases r with
    | d r => exact .d (r.keep k)
    | c h => exact .c h) (RE.keep k t)
theorem RS.keep {m : List Addr} {e' : List Addr} {H' : Hp} {S : Sto} (k : Keep G e H e' H') (r : RS G e m H S) (hi : ∀ b ∈ m, b ∈ e') (ha : ∀ a ∈ m, H' a = H a) (ho : ∀ b y, H b = some (.own y) → H' b = some (.own y)) : RS G e' m H' S :=
  ⟨r.len, r.nd, hi, fun i a c h1 h2 => by
    obtain ⟨o, q1, q2⟩ := r.at' i a c h1 h2
    exact ⟨o, by rw [ha a (List.mem_of_getElem? h1)]; exact q1, q2.keep k ho⟩⟩
theorem Ext.grow {m' : List Addr} {H0 H' : Hp} {D₀ : Addr} {acc acc' : List V} (E : Ext G m H0 m' H') (h0 : H0 D₀ = none) (h : H' D₀ = some (.lst acc)) : Ext G m H0 m' (upd H' D₀ (.lst acc')) := by
  have ne : ∀ {b : Addr} {o : HO}, H0 b = some o → b ≠ D₀ := fun {b o} q z => by rw [z, h0] at q; cases q
  refine ⟨fun b o q n t => by rw [upd_ne (ne q)]; exact E.keep b o q n t, fun b xs q => by rw [upd_ne (ne q)]; exact E.tups b xs q, fun b o u q => by rw [upd_ne (ne q)]; exact E.frzs b o u q,
    fun b a q => by rw [upd_ne (ne q)]; exact E.owns b a q, fun b q => by
      obtain ⟨o, q1, q2⟩ := E.live b q
      by_cases z : b = D₀
      · rw [z]; exact ⟨_, upd_same, fun ps z => by cases z⟩
      · exact ⟨o, by rw [upd_ne z]; exact q1, q2⟩, E.pre, fun t p hp => ?_⟩
  obtain ⟨ps, g1, g2, g3⟩ := E.tab t p hp
  refine ⟨ps, by rw [upd_ne (fun z => by rw [z, h] at g1; cases g1)]; exact g1, g2, fun pos cv hc => ?_⟩
  obtain ⟨c, g4, g5⟩ := g3 pos cv hc
  exact ⟨c, g4, by rw [upd_ne (fun z => by rw [z, h] at g5; cases g5)]; exact g5⟩
end

theorem wipe_idem (own : List Nat) : ∀ σ : St, L2.wipe (L2.wipe σ own) own = L2.wipe σ own := by
  have key : ∀ (vs own : List Nat) (σ : St), (∀ i ∈ vs, i ∈ own) → L2.wipe (L2.wipe σ vs) own = L2.wipe σ own := by
    intro vs
    induction vs with
    | nil => intro own σ _; rfl
    | cons v vs ih =>
      intro own σ h
      show L2.wipe ((L2.wipe σ vs).set v none) own = _
      rw [wipe_set (h v List.mem_cons_self)]
      exact ih own σ fun i hi => h i (List.mem_cons_of_mem _ hi)
  exact fun σ => key own own σ fun _ h => h
section
variable {X : Cx} {T : List (Addr × Str)} {W : WX}
theorem ts_nil : PTs X [] (tT (gOf X T) W yesM) := ⟨fun pins s σ H Q I h => pts_nil.run pins s σ H Q I (by
  obtain ⟨x, m, ρ, S, p, h⟩ := h
  exact h m H Ext.refl p.sto)⟩
theorem ts_one {c : Expr} {t : MT} (h : PT X c (tT (gOf X T) W t)) : PTs X [c] (tT (gOf X T) W t) := pts_one h
theorem lc_red {fi : MI} {t : MT} {f : ME} {tgt : Tg} {own : List Nat} (ho : ∀ i ∈ tgt.ix, i ∈ own) {σ : St} {H : Hp} {Q : VK} (h : tE (gOf X T) W (lcM fi tgt t f own) σ H Q) :
    tLc (tI (gOf X T) W fi) (gT X.K tgt) (tT (gOf X T) WF t) (tE (gOf X T) WF f) own σ H Q := by
  obtain ⟨x, m, ρ, S, p, h⟩ := h
  refine ⟨x, m, ρ, S, p, (Post.bind h).mono fun ds S1 m1 H1 E1 R1 ⟨_, _, h1⟩ J hJ => fun D₀ hD => ?_⟩
  have p1 := p.ext E1 R1
  split at h1
  case isFalse => exact h1.elim
  case isTrue hbig =>
  cases hL : lcL tgt t f (wipeE ρ own) ds S1 with
  | un => rw [hL] at h1; exact h1.elim
  | ex ee S' => rw [hL] at h1; exact h1.elim
  | ok ys Sf =>
    rw [hL] at h1
    refine ⟨fun i k H2 => ∃ m2 S2 acc vacc rest, k = ds.length - i ∧ i ≤ ds.length ∧ Ext (gOf X T) m1 H1 m2 H2 ∧ Rp (gOf X T) (D₀ :: x) m2 H2 (wipeE ρ own) S2 (L2.wipe σ own) ∧ H2 D₀ = some (.lst vacc) ∧
      RVs (gOf X T) (D₀ :: x ++ m2) H2 acc vacc ∧ vacc.length ≤ i ∧ lcL tgt t f (wipeE ρ own) (ds.drop i) S2 = .ok rest Sf ∧ ys = acc ++ rest ∧ D₀ ∉ m2,
      ⟨ds.length, m1, S1, [], [], ys, by simp, Nat.zero_le _, Ext.new hD, ⟨(RE.wipeS own p1.env).keep (Keep.hide hD), R1.keep (Keep.hide hD) (fun b hb => List.mem_cons_of_mem _ (List.mem_append_right _ hb)) (fun a ha => by
          obtain ⟨u, q⟩ := R1.live ha
          rw [upd_ne (ne_of_none q hD)]) (fun b y q => by rw [upd_ne (ne_of_none q hD)]; exact q), fun b hb => ?_, p1.tab.ext fun b u q => by rw [upd_ne (ne_of_none q hD)]; exact q⟩, upd_same, .nil, Nat.zero_le _, by rw [List.drop_zero]; exact hL, rfl, fun z => by
          obtain ⟨u, q⟩ := R1.live z
          rw [hD] at q; cases q⟩, ?_⟩
    · rcases List.mem_cons.mp hb with z | z
      · rw [z]; exact ⟨_, upd_same, fun ps z => by cases z⟩
      · obtain ⟨u, q, qn⟩ := p1.ex b z
        exact ⟨u, by rw [upd_ne (ne_of_none q hD)]; exact q, qn⟩
    rintro i k H2 ⟨m2, S2, acc, vacc, rest, rfl, hi, E2, p2, hd2, r2, hv, hl, hy, nD⟩
    have hY := hJ (D₀ :: x) m2 H2 (fun b hb => by
      rcases List.mem_cons.mp hb with z | z
      · exact .inr (by rw [z]; exact hD)
      · exact .inl z) E2 p2.trk i
    by_cases hlt : i < ds.length
    · obtain ⟨hgo, hyl⟩ := hY.1 ds[i] (List.getElem?_eq_getElem hlt)
      rw [List.drop_eq_getElem_cons hlt] at hl
      simp only [lcL] at hl
      refine .inr ⟨hgo, fun H3 => ∃ m3 S3 acc vacc rest, Ext (gOf X T) m1 H1 m3 H3 ∧ Rp (gOf X T) (D₀ :: x) m3 H3 (wipeE ρ own) S3 (L2.wipe σ own) ∧ H3 D₀ = some (.lst vacc) ∧
        RVs (gOf X T) (D₀ :: x ++ m3) H3 acc vacc ∧ vacc.length ≤ i + 1 ∧ lcL tgt t f (wipeE ρ own) (ds.drop (i + 1)) S3 = .ok rest Sf ∧ ys = acc ++ rest ∧ D₀ ∉ m3,
        fun H3 ⟨m3, S3, acc, vacc, rest, a1, a2, a3, a4, a5, a6, a7, a8⟩ => ⟨ds.length - (i + 1), by omega, m3, S3, acc, vacc, rest, rfl, hlt, a1, a2, a3, a4, a5, a6, a7, a8⟩, fun v H3 yv => ?_⟩
      obtain ⟨E3, k3, r3⟩ := hyl v H3 yv
      have R3 : RS (gOf X T) (D₀ :: x ++ m2) m2 H3 S2 := p2.sto.stay E3 fun a ha => k3 a ha (by obtain ⟨o, q⟩ := p2.sto.live ha; rw [q]; simp)
      have p3 := p2.ext E3 R3
      cases hs : setT tgt ds[i] (wipeE ρ own) with
      | none => rw [hs] at hl; cases hl
      | some ρ' =>
        rw [hs] at hl
        dsimp only at hl
        refine tg_ok r3 p3.env hs ho fun σ' re' hw => ⟨by rw [hw, wipe_idem], ?_⟩
        have q3 : Rp (gOf X T) (D₀ :: x) m2 H3 ρ' S2 σ' := ⟨re', R3, p3.ex, p3.tab⟩
        have nD' : ∀ {m m' : List Addr} {H H' : Hp}, Ext (gOf X T) m H m' H' → D₀ ∉ m → Nt H D₀ → D₀ ∉ m' := fun E n q z => by
          obtain ⟨nw, e1, f1⟩ := E.pre
          rw [e1] at z
          rcases List.mem_append.mp z with z | z
          · exact n z
          · exact f1 _ z q
        have d3 : H3 D₀ = some (.lst vacc) := E3.keep _ _ hd2 nD (fun ps z => by cases z)
        refine ⟨D₀ :: x, m2, ρ', S2, q3, ?_⟩
        cases ht : t ρ' S2 with
        | un => rw [ht] at hl; cases hl
        | ex ee S' => rw [ht] at hl; cases hl
        | ok b S3 =>
          rw [ht] at hl
          intro m4 H4 E4 R4
          have q4 := q3.ext E4 R4
          have d4 : H4 D₀ = some (.lst vacc) := E4.keep _ _ d3 nD (fun ps z => by cases z)
          have n4 := nD' E4 nD ⟨_, d3, fun ps z => by cases z⟩
          cases b with
          | false =>
            refine iteF ⟨m4, S3, acc, vacc, rest, (E2.trans E3).trans E4, ⟨(p3.ext E4 R4).env, R4, (p3.ext E4 R4).ex, (p3.ext E4 R4).tab⟩, d4, r2.keep ((E3.trans E4).kp), by omega, hl, hy, n4⟩
          | true =>
            refine iteT ⟨D₀ :: x, m4, ρ', S3, q4, ?_⟩
            dsimp only at hl
            cases hf : f ρ' S3 with
            | un => rw [hf] at hl; cases hl
            | ex ee S' => rw [hf] at hl; cases hl
            | ok u S4 =>
              rw [hf] at hl
              cases u with
              | c j => cases hl
              | d y =>
                dsimp only at hl
                cases hr : lcL tgt t f (wipeE ρ own) (ds.drop (i + 1)) S4 with
                | un => rw [hr] at hl; cases hl
                | ex ee S' => rw [hr] at hl; cases hl
                | ok rest' S5 =>
                  rw [hr] at hl
                  cases hl
                  intro m5 H5 E5 R5 w rw'
                  have d5 : H5 D₀ = some (.lst vacc) := E5.keep _ _ d4 n4 (fun ps z => by cases z)
                  have n5 := nD' E5 n4 ⟨_, d4, fun ps z => by cases z⟩
                  have E35 := (E3.trans E4).trans E5
                  have p5 := p2.ext E35 R5
                  have kg : Keep (gOf X T) (D₀ :: x ++ m5) H5 (D₀ :: x ++ m5) (upd H5 D₀ (.lst (vacc ++ [w]))) := Keep.grow d5 List.mem_cons_self
                  refine ⟨vacc, d5, Nat.lt_of_le_of_lt hv (Nat.lt_of_lt_of_le hlt (big_ok hbig)), m5, S4, acc ++ [y], vacc ++ [w], rest', (E2.trans E35).grow hD d5, ⟨p5.env.keep kg, R5.keep kg (fun b hb => List.mem_append_right _ hb) (fun a ha => upd_ne fun z => n5 (z ▸ ha)) (fun b y q => by
                      rw [upd_ne (fun z => by rw [z, d5] at q; cases q)]; exact q), fun b hb => ?_, ?_⟩, upd_same, ?_, by simp; omega, hr, by rw [hy]; simp, n5⟩
                  · by_cases z : b = D₀
                    · rw [z]; exact ⟨_, upd_same, fun ps z => by cases z⟩
                    · obtain ⟨o, q, qn⟩ := p5.ex b hb
                      exact ⟨o, by rw [upd_ne z]; exact q, qn⟩
                  · exact ((E2.trans E35).grow hD d5).tab p1.tab
                  · refine (RVs.append (r2.keep E35.kp) (.cons ?_ .nil)).keep kg
                    cases rw' with
                    | d r => exact r
    · have e : i = ds.length := by omega
      rw [e, List.drop_length] at hl
      cases hl
      rw [List.append_nil] at hy
      subst hy
      refine .inl ⟨hY.2 (by omega), ?_⟩
      have ks : Keep (gOf X T) (D₀ :: x ++ m2) H2 (x ++ m2) H2 := keep_sub fun a ha => List.mem_cons_of_mem _ ha
      refine h1 m2 H2 E2 (p2.sto.keep ks (fun b hb => List.mem_append_right _ hb) (fun _ _ => rfl) fun _ _ q => q) _ (.d (.lst hd2 (fun z => ?_) (r2.keep ks)))
      rcases List.mem_append.mp z with z | z
      · obtain ⟨o, q, _⟩ := p1.ex _ z
        rw [hD] at q; cases q
      · exact nD z
variable {elt tg iter : Expr} {ifs : List Expr} {scope : Scope} {own : List (Str × Nat)} {pos spos : Pos} {fi : MI} {t : MT} {f : ME}
theorem e_lc (tgt : Tg) (own : List (Str × Nat)) (hc : X.calm = true) (hN : X.N.Nodup) (hi : PI X tg iter (tI (gOf X T) W fi)) (ok : BlkOk X.N X.env.scope scope own)
    (hg : ∀ (s : Shared) (H : Hp) (C : Addr) (cl : List (Str × Addr)) (fp : List Addr), PG (X.blk s H scope (compEnvC scope cl C X.env) fp) tg (gT X.K tgt))
    (ht : ∀ (s : Shared) (H : Hp) (C : Addr) (cl : List (Str × Addr)) (fp : List Addr), PTs (X.blk s H scope (compEnvC scope cl C X.env) fp) ifs (tT (gOf (X.blk s H scope (compEnvC scope cl C X.env) fp) T) WF t))
    (he : ∀ (s : Shared) (H : Hp) (C : Addr) (cl : List (Str × Addr)) (fp : List Addr), Takes (X.blk s H scope (compEnvC scope cl C X.env) fp) WF → PE (X.blk s H scope (compEnvC scope cl C X.env) fp) elt (tE (gOf (X.blk s H scope (compEnvC scope cl C X.env) fp) T) WF f))
    (ho : ∀ i ∈ tgt.ix, i ∈ own.map (·.2)) (hs : ∀ x, foldedSetIterable iter X.env x = pure x := by intro _; rfl) : PE X (.ListComp elt [⟨tg, iter, ifs, 0⟩] scope pos) (tE (gOf X T) W (lcM fi tgt t f (own.map (·.2)))) :=
  pe_mono (pe_lc hc hN hi ok hg ht (fun s H C cl fp => he s H C cl fp takes0) hs) fun σ H Q h => lc_red ho h
theorem s_lc (i : Nat) (tgt : Tg) (own : List (Str × Nat)) {y : Str} {py : Pos} (hc : X.calm = true) (hN : X.N.Nodup) (hi : PI X tg iter (tI (gOf X T) W fi)) (ok : BlkOk X.N X.env.scope scope own)
    (hg : ∀ (s : Shared) (H : Hp) (C : Addr) (cl : List (Str × Addr)) (fp : List Addr), PG (X.blk s H scope (compEnvC scope cl C X.env) fp) tg (gT X.K tgt))
    (ht : ∀ (s : Shared) (H : Hp) (C : Addr) (cl : List (Str × Addr)) (fp : List Addr), PTs (X.blk s H scope (compEnvC scope cl C X.env) fp) ifs (tT (gOf (X.blk s H scope (compEnvC scope cl C X.env) fp) T) WF t))
    (he : ∀ (s : Shared) (H : Hp) (C : Addr) (cl : List (Str × Addr)) (fp : List Addr), Takes (X.blk s H scope (compEnvC scope cl C X.env) fp) WF → PE (X.blk s H scope (compEnvC scope cl C X.env) fp) elt (tE (gOf (X.blk s H scope (compEnvC scope cl C X.env) fp) T) WF f))
    (ho : ∀ i ∈ tgt.ix, i ∈ own.map (·.2)) (hsw : swapsWith (.ListComp elt [⟨tg, iter, ifs, 0⟩] scope pos) (some (.Name y py)) spos.line X.env = pure true) (hy : X.N[i]? = some y := by rfl) (hyl : X.env.scope.names.lookup y = some .local := by rfl) (hs : ∀ x, foldedSetIterable iter X.env x = pure x := by intro _; rfl) :
    PS X (.Assign [.Name y py] (.ListComp elt [⟨tg, iter, ifs, 0⟩] scope pos) spos) (tS (gOf X T) W (asgM (lcM fi tgt t f (own.map (·.2))) (namG i))) :=
  ps_mono (ps_setLc hc hN hy hyl hsw hi ok hg ht (fun s H C cl fp => he s H C cl fp takes0) hs) fun Dn σ H h => by
    refine lc_red (W := W) (f := f) (t := t) ho ?_
    obtain ⟨x, m, ρ, S, p, h⟩ := h
    refine ⟨x, m, ρ, S, p, (Post.toS h p).mono fun u S1 m1 H1 E1 R1 ⟨_, _, h1⟩ v rv => ?_⟩
    have p1 := p.ext E1 R1
    exact h1 m1 H1 _ Ext.refl ⟨p1.env.set rv i, p1.sto, p1.ex, p1.tab⟩
end
end Mir

/-! Mir12: several names at once; raise. -/
namespace Mir
open PySem PySem.Spec PyProof.Rows L2 RZ
def setUs : List Nat → List U → Env → Env
  | i :: is, u :: us, ρ => setUs is us (ρ.set i (some u))
  | _, _, ρ => ρ
def parsM (is : List Nat) (fs : List ME) : MS := fun ρ S => match argsM fs ρ S with
  | .ok us S' => if us.length = is.length then .nx (setUs is us ρ) S' else .un
  | .ex e S' => .ex e ρ S'
  | .un => .un
section
variable {G : Gc} {e m : List Addr} {H : Hp}
theorem us_ok : ∀ {is : List Nat} {us : List U} {vs : List V} {ρ : Env} {σ : St} {Q : St → Hp → Prop}, RUs G e m H us vs → RE G e m H ρ σ → us.length = is.length → (∀ σ', RE G e m H (setUs is us ρ) σ' → Q σ' H) → gNames is vs σ H Q
  | [], [], _, ρ, σ, Q, .nil, re, _, q => ⟨rfl, q σ re⟩
  | i :: is, u :: us, _, ρ, σ, Q, .cons r t, re, h, q => ⟨_, _, rfl, us_ok t (RE.set r i re) (by simpa using h) q⟩
  | [], _ :: _, _, _, _, _, _, _, h, _ => by simp at h
  | _ :: _, [], _, _, _, _, _, _, h, _ => by simp at h
end
section
variable {X : Cx} {T : List (Addr × Str)} {W : WX} {es ts : List Expr} {fs : List ME} {is : List Nat} {pos pt pt2 : Pos} {kt k2 : Nat}
theorem gns_nil : PGs X [] (gNames []) := pgs_nil
theorem gns_cons {i : Nat} {e : Expr} (h1 : PG X e (gName i)) (h2 : PGs X es (gNames is)) (hs : (assignEach (e :: es) X.env).map (·.2) = assign e X.env :: (assignEach es X.env).map (·.2) := by rfl) : PGs X (e :: es) (gNames (i :: is)) := pgs_cons h1 h2 hs
/-- a tuple of names, a tuple of values: no exchange -/
theorem s_par (is : List Nat) (hc : X.calm = true) (ha : PA X es (tA (gOf X T) W (argsM fs))) (hg : PGs X ts (gNames is)) (hl : Nat.ble fs.length 1000 = true := by rfl) (hn : (assignEach ts X.env).length = is.length := by rfl) (hst : (assignEach ts X.env).findIdx? (·.1) = none := by rfl)
    (hs : swapsWithSole [.Tuple ts kt pt] (.Tuple es k2 pt2) pos.line X.env = pure false := by rfl) (hw : swappedStores [.Tuple ts kt pt] (.Tuple es k2 pt2) X.env = pure none := by rfl)
    (h1 : (assignEach [.Tuple ts kt pt] X.env).map (·.2) = [assign (.Tuple ts kt pt) X.env] := by rfl) : PS X (.Assign [.Tuple ts kt pt] (.Tuple es k2 pt2) pos) (tS (gOf X T) W (parsM is fs)) := ps_mono (ps_asg (pe_tup ha) (pg_tup hc hg hn hst) hs hw h1) fun Dn σ H h => by
  obtain ⟨x, m, ρ, S, p, h⟩ := h
  cases q : argsM fs ρ S with
  | un => simp only [parsM, q] at h; exact h.elim
  | ex ee S' =>
    refine ⟨x, m, ρ, S, p, ?_⟩
    simp only [parsM, q] at h
    rw [q]
    exact fun m' H' cls d E R rx => h m' H' σ cls d E (p.ext E R) rx
  | ok us S' =>
    refine ⟨x, m, ρ, S, p, ?_⟩
    rw [q]
    intro m1 H1 E1 R1 vs rvs
    have p1 := p.ext E1 R1
    have hn' : vs.length = fs.length := by rw [← RUs.length rvs, argsM_len q]
    refine ⟨Nat.le_of_lt (small1000 (by rw [hn']; exact Nat.le_of_ble_eq_true hl)), fun a np => ?_⟩
    simp only [parsM, q] at h
    split at h
    · rename_i hlen
      have E2 : Ext (gOf X T) m1 H1 m1 (upd H1 a (.tup vs)) := Ext.new np
      have p2 := p1.ext E2 (R1.new np)
      refine ⟨a, vs, rfl, .inl (.inl upd_same), by rw [← RUs.length rvs]; exact hlen, us_ok (rvs.ext E2) p2.env hlen fun σ' re => ?_⟩
      exact h m1 _ σ' (E1.trans E2) ⟨re, p2.sto, p2.ex, p2.tab⟩
    · exact h.elim
/-- two local names on a line: the stores are exchanged -/
theorem s_par2 (i j : Nat) {x y : Str} {a b : Expr} {px py : Pos} (hc : X.calm = true) (hN : X.N.Nodup) (ha : PA X [a, b] (tA (gOf X T) W (argsM fs))) (hij : i ≠ j := by decide) (hi : X.N[i]? = some x := by rfl) (hj : X.N[j]? = some y := by rfl)
    (hx : X.env.scope.names.lookup x = some .local := by rfl) (hy : X.env.scope.names.lookup y = some .local := by rfl)
    (hw : swappedStores [.Tuple [.Name x px, .Name y py] kt pt] (.Tuple [a, b] k2 pt2) X.env = pure (some [x, y]) := by rfl)
    (hs : swapsWithSole [.Tuple [.Name x px, .Name y py] kt pt] (.Tuple [a, b] k2 pt2) pos.line X.env = pure false := by rfl) :
    PS X (.Assign [.Tuple [.Name x px, .Name y py] kt pt] (.Tuple [a, b] k2 pt2) pos) (tS (gOf X T) W (parsM [i, j] fs)) := ps_mono (ps_par hc hN hi hj hij hx hy ha hw hs) fun Dn σ H h => by
  obtain ⟨x, m, ρ, S, p, h⟩ := h
  cases q : argsM fs ρ S with
  | un => simp only [parsM, q] at h; exact h.elim
  | ex ee S' =>
    refine ⟨x, m, ρ, S, p, ?_⟩
    simp only [parsM, q] at h
    rw [q]
    exact fun m' H' cls d E R rx => h m' H' σ cls d E (p.ext E R) rx
  | ok us S' =>
    refine ⟨x, m, ρ, S, p, ?_⟩
    rw [q]
    intro m1 H1 E1 R1 vs rvs
    have p1 := p.ext E1 R1
    simp only [parsM, q] at h
    split at h
    · rename_i hlen
      cases rvs with
      | nil => simp at hlen
      | cons r t => cases t with
        | nil => simp at hlen
        | cons r' t => cases t with
          | nil => exact ⟨_, _, rfl, h m1 H1 _ E1 ⟨RE.set r' j (RE.set r i p1.env), p1.sto, p1.ex, p1.tab⟩⟩
          | cons _ _ => simp at hlen
    · exact h.elim
def tPar3 (i j k : Nat) (ta : TA) : TS := fun D σ H => ta σ H fun vs H1 => ∃ v w z, vs = [v, w, z] ∧ D.nx (((σ.set i (some v)).set j (some w)).set k (some z)) H1
theorem ps_par3 {i j k : Nat} {x y z : Str} {a b c : Expr} {ta : TA} {px py pz : Pos} (hc : X.calm = true) (hN : X.N.Nodup) (hi : X.N[i]? = some x) (hj : X.N[j]? = some y) (hk : X.N[k]? = some z) (hij : i ≠ j) (hik : i ≠ k) (hjk : j ≠ k)
    (hx : X.env.scope.names.lookup x = some .local) (hy : X.env.scope.names.lookup y = some .local) (hz : X.env.scope.names.lookup z = some .local) (ha : PA X [a, b, c] ta)
    (hw : swappedStores [.Tuple [.Name x px, .Name y py, .Name z pz] kt pt] (.Tuple [a, b, c] k2 pt2) X.env = pure (some [x, y, z]))
    (hs : swapsWithSole [.Tuple [.Name x px, .Name y py, .Name z pz] kt pt] (.Tuple [a, b, c] k2 pt2) pos.line X.env = pure false) :
    PS X (.Assign [.Tuple [.Name x px, .Name y py, .Name z pz] kt pt] (.Tuple [a, b, c] k2 pt2) pos) (tPar3 i j k ta) := ⟨fun pins s σ H D I h => by
  rw [exec_Assign_arm]
  refine wpAny_bind (wpAny_standAt ?_)
  rw [hs]
  refine wpAny_bind (wpAny_pure ?_)
  rw [if_neg (by decide)]
  refine wpAny_bind (Tuple_ (thn (ha.run _ pins s σ H _ I h) fun us s1 ⟨vs, H1, I1, r1, q1⟩ => ?_))
  obtain ⟨v, w, t, e1, q1⟩ := q1
  subst e1
  obtain ⟨u1, u2, u3, rfl, r2, r3, r4⟩ : ∃ u1 u2 u3, us = [u1, u2, u3] ∧ RelV v u1 ∧ RelV w u2 ∧ RelV t u3 := by
    cases r1 with
    | cons a1 b1 => cases b1 with
      | cons a2 b2 => cases b2 with
        | cons a3 b3 => cases b3; exact ⟨_, _, _, rfl, a1, a2, a3⟩
  refine wpAny_newObj_type ?_ (by show 3 ≤ sizeLine; decide)
  have I2 : Inv X pins σ H1 { s1 with heap := s1.heap.push { cls := .type "tuple", data := .seq [u1, u2, u3].toArray } } := I1.kept (t' := s1.toks) fun b o e => Heap.get?_push_of_some _ e
  rw [hw]
  refine wpAny_bind (wpAny_pure ?_)
  show wpAny (model X.prog X.w) X.A (do rule "assign.swapped-stores"; let items ← unpackItems (.ref s1.heap.objs.size) 3 none; assignInOrder [fun v => bindName X.env z v, fun v => bindName X.env y v, fun v => bindName X.env x v] items.reverse; pure Flow.next) _ _ _
  refine wpAny_bind (wpAny_rule (wpAny_bind (unpackItems_tuple (items := #[u1, u2, u3]) (I.ok.hd hc) (IsTup.new s1.heap _) fun h' hx' => ?_)))
  have I3 := I2.kept (h' := h') (t' := s1.toks) fun b o e => hx' b o (Nat.ne_of_lt (Heap.lt_size e)) e
  show wpAny _ _ (assignInOrder [fun v => bindName X.env z v, fun v => bindName X.env y v, fun v => bindName X.env x v] [u3, u2, u1] >>= fun _ => pure Flow.next) _ _ _
  refine wpAny_bind (assignInOrder_cons (wpAny_bindName (store_ok I3 hN hk (.inl hz) r4 (fun s2 I4 => ?_) (.inr hz))))
  refine assignInOrder_cons (wpAny_bindName (store_ok I4 hN hj (.inl hy) r3 (fun s3 I5 => ?_) (.inr hy)))
  refine assignInOrder_cons (wpAny_bindName (store_ok I5 hN hi (.inl hx) r2 (fun s4 I6 => assignInOrder_nil (wpAny_pure ?_)) (.inr hx)))
  rw [List.set_comm _ _ (Ne.symm hjk), List.set_comm _ _ (Ne.symm hik), List.set_comm _ _ (Ne.symm hij)] at I6
  exact ⟨_, H1, I6, q1⟩⟩
theorem s_par3 (i j k : Nat) {x y z : Str} {a b c : Expr} {px py pz : Pos} (hc : X.calm = true) (hN : X.N.Nodup) (ha : PA X [a, b, c] (tA (gOf X T) W (argsM fs))) (hij : i ≠ j := by decide) (hik : i ≠ k := by decide) (hjk : j ≠ k := by decide) (hi : X.N[i]? = some x := by rfl) (hj : X.N[j]? = some y := by rfl) (hk : X.N[k]? = some z := by rfl)
    (hx : X.env.scope.names.lookup x = some .local := by rfl) (hy : X.env.scope.names.lookup y = some .local := by rfl) (hz : X.env.scope.names.lookup z = some .local := by rfl)
    (hw : swappedStores [.Tuple [.Name x px, .Name y py, .Name z pz] kt pt] (.Tuple [a, b, c] k2 pt2) X.env = pure (some [x, y, z]) := by rfl)
    (hs : swapsWithSole [.Tuple [.Name x px, .Name y py, .Name z pz] kt pt] (.Tuple [a, b, c] k2 pt2) pos.line X.env = pure false := by rfl) :
    PS X (.Assign [.Tuple [.Name x px, .Name y py, .Name z pz] kt pt] (.Tuple [a, b, c] k2 pt2) pos) (tS (gOf X T) W (parsM [i, j, k] fs)) := ps_mono (ps_par3 hc hN hi hj hk hij hik hjk hx hy hz ha hw hs) fun Dn σ H h => by
  obtain ⟨x, m, ρ, S, p, h⟩ := h
  cases q : argsM fs ρ S with
  | un => simp only [parsM, q] at h; exact h.elim
  | ex ee S' =>
    refine ⟨x, m, ρ, S, p, ?_⟩
    simp only [parsM, q] at h
    rw [q]
    exact fun m' H' cls d E R rx => h m' H' σ cls d E (p.ext E R) rx
  | ok us S' =>
    refine ⟨x, m, ρ, S, p, ?_⟩
    rw [q]
    intro m1 H1 E1 R1 vs rvs
    have p1 := p.ext E1 R1
    simp only [parsM, q] at h
    split at h
    · rename_i hlen
      cases rvs with
      | nil => simp at hlen
      | cons r t => cases t with
        | nil => simp at hlen
        | cons r' t => cases t with
          | nil => simp at hlen
          | cons r'' t => cases t with
            | nil => exact ⟨_, _, _, rfl, h m1 H1 _ E1 ⟨RE.set r'' k (RE.set r' j (RE.set r i p1.env)), p1.sto, p1.ex, p1.tab⟩⟩
            | cons _ _ => simp at hlen
    · exact h.elim

/-! ### raise X("..") of a class without its own __init__ -/
structure XC (G : Gc) (x : Str) : Prop where
  ex : ∃ C, G.mg x = some (.ref C) ∧ PySem.W.excIn G.K C [.type "ValueError", .type "Exception", .type "BaseException", .type "object"] "ValueError.__new__" = true ∧ PySem.W.keepIn G.K (.ref C) = true ∧
    PySem.W.subIn G.K (.ref C) (.type "BaseException") = some true ∧ PySem.W.typeIn G.K (.ref C) = some (.type "type")
theorem s_rai {x m : Str} {j : Nat} {p p2 ps pos : Pos} (h : XC (gOf X T) x) (hc : X.calm = true) (tk : Takes X W) (hg : Gl X x := by rfl) (hdb : (x == ("__debug__" : Str)) = false := by decide) :
    PS X (.Raise (some (.Call (.Name x p) [.Constant (.str m) j p2] [] ps)) none pos) (tS (gOf X T) W (raiM { cls := x })) := by
  obtain ⟨C, h1, h2, h3, h4, h5⟩ := h.ex
  refine ps_mono (ps_raise hc tk (pmk_own PySem.F.excBase_ValueError h2 h1 h3 (raises_own h4 h5) hg hdb)) fun Dn σ H h => ?_
  obtain ⟨y, m, ρ, S, p, h⟩ := h
  exact h m H σ (.ref C) none Ext.refl p ⟨C, rfl, h1, trivial⟩
end
end Mir

/-! Mir13: cells that are changed: o[i] = v, append; dicts that are made. -/
namespace Mir
open PySem PySem.Spec PyProof.Rows L2 RZ
def dputV : List NestedKey → List D → NestedKey → D → List D
  | k :: ks, v :: vs, x, d => if k = x then d :: vs else v :: dputV ks vs x d
  | _, vs, _, _ => vs
def dput (ks : List NestedKey) (vs : List D) (x : NestedKey) (d : D) : List NestedKey × List D := if x ∈ ks then (ks, dputV ks vs x d) else (ks ++ [x], vs ++ [d])
def setC : Cell → D → D → Option Cell
  | .lst xs, .int i, d => (ixN xs.length i).map fun j => .lst (xs.set j d)
  | .dic false ks vs, .int i, d => if ks.length < big then some (.dic false (dput ks vs (.num i) d).1 (dput ks vs (.num i) d).2) else none
  | .dic false ks vs, .str x, d => if ks.length < big then some (.dic false (dput ks vs (.text x) d).1 (dput ks vs (.text x) d).2) else none
  | .dic true ks vs, .tup xs, d => match toN (.tup xs) with
    | some k => if k.depth ≤ 8 ∧ ks.length < big then some (.dic true (dput ks vs k d).1 (dput ks vs k d).2) else none
    | none => none
  | _, _, _ => none
section
variable {G : Gc} {e m x : List Addr} {H : Hp}
theorem Ext.upd1 {a : Addr} {o o' : HO} (h : H a = some o) (h1 : ∀ xs, o ≠ .tup xs) (h2 : ∀ b u, o ≠ .frz b u) (h3 : ∀ b, o ≠ .own b) (h4 : ∀ ps, o ≠ .tbl ps) (h5 : ∀ c q, a = c → o ≠ LamX.CodeO c q) (h6 : ∀ ps, o' ≠ .tbl ps := by intro ps z; cases z) : Ext G [a] H [a] (upd H a o') := by
  have ne : ∀ {b : Addr} {u : HO}, H b = some u → o ≠ u → b ≠ a := fun {b u} q n z => n (by rw [z, h] at q; exact Option.some.inj q)
  refine ⟨fun b u q n t => ?_, fun b u q => ?_, fun b u w q => ?_, fun b u q => ?_, fun b q => ?_, ⟨[], by simp, fun _ z => by cases z⟩, fun t p hp => ?_⟩
  · rw [upd_ne (fun z => n (by simp [z]))]; exact q
  · rw [upd_ne (ne q (h1 _))]; exact q
  · rw [upd_ne (ne q (h2 _ _))]; exact q
  · rw [upd_ne (ne q (h3 _))]; exact q
  · by_cases z : b = a
    · rw [z]; exact ⟨_, upd_same, h6⟩
    · obtain ⟨u, q, qn⟩ := q
      exact ⟨u, by rw [upd_ne z]; exact q, qn⟩
  · obtain ⟨ps, g1, g2, g3⟩ := t p hp
    refine ⟨ps, by rw [upd_ne (ne g1 (h4 _))]; exact g1, g2, fun pos cv hc => ?_⟩
    obtain ⟨c, g4, g5⟩ := g3 pos cv hc
    refine ⟨c, g4, ?_⟩
    have hca : c ≠ a := fun z => h5 c p.2 z.symm (Option.some.inj (h.symm.trans (z ▸ g5)))
    rw [upd_ne hca]
    exact g5
/-- what is kept at a cell's change -/
theorem Keep.upd1 {a : Addr} {o o' : HO} (h : H a = some o) (h1 : ∀ xs, o ≠ .tup xs) (h2 : ∀ b u, o ≠ .frz b u) (ha : a ∈ e) : Keep G e H e (upd H a o') := by
  have ne : ∀ {b : Addr}, b ∉ e → b ≠ a := fun {b} n z => n (z ▸ ha)
  have ne2 : ∀ {b : Addr} {u : HO}, H b = some u → o ≠ u → b ≠ a := fun {b u} q n z => n (by rw [z, h] at q; exact Option.some.inj q)
  have st : ∀ b xs, SqT G.K H b xs → SqT G.K (upd H a o') b xs := fun b xs q => by
    rcases q with (q | ⟨u, q⟩) | q
    · exact .inl (.inl (by rw [upd_ne (ne2 q (h1 _))]; exact q))
    · exact .inl (.inr ⟨u, by rw [upd_ne (ne2 q (h2 _ _))]; exact q⟩)
    · exact .inr q
  refine ⟨st, fun b xs q => ?_, fun b xs q n => ⟨by rw [upd_ne (ne n)]; exact q, n⟩, fun b u t ks xs q n r => ⟨by rw [upd_ne (ne n)]; exact q, n, r.ext st⟩⟩
  rcases q with ⟨u, q⟩ | q
  · exact .inl ⟨u, by rw [upd_ne (ne2 q (h2 _ _))]; exact q⟩
  · exact .inr q
end
/-! dicts: what is there, what comes -/
section
variable {G : Gc} {e : List Addr} {H : Hp}
theorem zip_map_put (k : Key) (v : V) : ∀ {kk : List Key} {xs : List V}, kk.length = xs.length → (kk.zip xs).map (fun kv => if kv.1 = k then (kv.1, v) else kv) = kk.zip ((kk.zip xs).map fun kv => if kv.1 = k then v else kv.2)
  | [], [], _ => rfl
  | j :: kk, x :: xs, h => by
    simp only [List.zip_cons_cons, List.map_cons]
    rw [zip_map_put k v (by simpa using h)]
    congr 1
    by_cases q : j = k <;> simp [q]
  | [], _ :: _, h => by simp at h
  | _ :: _, [], h => by simp at h
theorem putV_rvs {k : Key} {v : V} {d : D} (r : RV G e H d v) : ∀ {kk : List Key} {xs : List V} {ds : List D}, kk.length = xs.length → kk.Nodup → RVs G e H ds xs → RVs G e H (dputV (kk.map kN) ds (kN k) d) ((kk.zip xs).map fun kv => if kv.1 = k then v else kv.2)
  | [], [], _, _, _, .nil => .nil
  | j :: kk, x :: xs, y :: ds, h, hn, .cons r1 r2 => by
    simp only [List.map_cons, List.zip_cons_cons, dputV]
    obtain ⟨n1, n2⟩ := List.nodup_cons.mp hn
    by_cases q : j = k
    · subst q
      rw [if_pos rfl, if_pos rfl]
      refine .cons r ?_
      have : ∀ (l : List Key) (zs : List V), j ∉ l → l.length = zs.length → (l.zip zs).map (fun kv => if kv.1 = j then v else kv.2) = zs := by
        intro l
        induction l with
        | nil => intro zs _ hl; cases zs with
          | nil => rfl
          | cons _ _ => simp at hl
        | cons a l ih => intro zs hn hl; cases zs with
          | nil => simp at hl
          | cons z zs =>
            simp only [List.mem_cons, not_or] at hn
            simp only [List.zip_cons_cons, List.map_cons]
            rw [if_neg (fun z => hn.1 z.symm), ih zs hn.2 (by simpa using hl)]
      rw [this kk xs n1 (by simpa using h)]
      exact r2
    · rw [if_neg (fun z => q (kN_inj z)), if_neg q]
      exact .cons r1 (putV_rvs r (by simpa using h) n2 r2)
  | [], _ :: _, _, h, _, _ => by simp at h
  | _ :: _, [], _, h, _, _ => by simp at h
theorem any_zip (k : Key) : ∀ {kk : List Key} {xs : List V}, kk.length = xs.length → ((kk.zip xs).any fun kv => decide (kv.1 = k)) = decide (kN k ∈ kk.map kN)
  | [], [], _ => by simp
  | j :: kk, x :: xs, h => by
    simp only [List.zip_cons_cons, List.any_cons, List.map_cons, List.mem_cons]
    rw [any_zip k (by simpa using h)]
    by_cases q : j = k
    · subst q; simp
    · have : ¬ kN k = kN j := fun z => q (kN_inj z.symm)
      simp [q, this]
  | [], _ :: _, h => by simp at h
  | _ :: _, [], h => by simp at h
end
section
variable {X : Cx} {T : List (Addr × Str)} {pins : List (Addr × Obj)} {s : Shared} {σ : St} {H : Hp}
theorem dk_nodup {a : Addr} {kk : List Key} {xs : List V} (I : Inv X pins σ H s) (h : H a = some (.dK (kk.zip xs))) (hl : kk.length = xs.length) : kk.Nodup := by
  obtain ⟨_, _, vs, rel, o, es, ep, h1, h2, h3, h4, h5⟩ := dk_of I.hok h
  have e : ∀ {l : List (Key × V)} {m : List (Key × Value)}, KV l m → m.map (·.1) = l.map (·.1) := by
    intro l m q
    induction q with
    | nil => rfl
    | cons q _ ih => simp [ih, q.1]
  have h6 : (vs.map (·.1)).Nodup := h5.2
  rw [e rel] at h6
  rw [show (kk.zip xs).map (·.1) = kk from List.map_fst_zip (by omega)] at h6
  exact h6

theorem code_ne {a : Addr} {o : HO} (I : Inv X pins σ H s) (h : H a = some o) (hd : ∀ ob : Obj, s.heap.get? a = some ob → ∀ vs, ob.data ≠ .fields vs) : ∀ c q, a = c → o ≠ LamX.CodeO c q := fun c q e z => by
  subst e z
  obtain ⟨⟨oc, vs, t, h1, h2, _⟩, _⟩ := I.hok a _ h
  exact hd oc h1 vs h2
theorem lst_code {a c : Addr} {xs : List V} {q : Str} : HO.lst xs ≠ LamX.CodeO c q := fun z => by unfold LamX.CodeO at z; cases z
theorem dK_code {c : Addr} {xs : List (Key × V)} {q : Str} : HO.dK xs ≠ LamX.CodeO c q := fun z => by unfold LamX.CodeO at z; cases z
theorem ins_code {C dx c : Addr} {xs : List (Str × V)} {q : Str} : HO.ins C dx xs ≠ LamX.CodeO c q := fun z => by unfold LamX.CodeO at z; cases z
/-- a cell is set: by values -/
def rSet (G : Gc) : TSet := fun o i v H Q => ∃ e a c ob key d c', o = .ref a ∧ a ∈ e ∧ H a = some ob ∧ RC G e H a c ob ∧ RV G e H key i ∧ RV G e H d v ∧ setC c key d = some c' ∧
  ∀ ob', Ext G [a] H [a] (upd H a ob') → RC G e (upd H a ob') a c' ob' → Q (upd H a ob')
theorem dput_k {G : Gc} {e : List Addr} {H : Hp} {a : Addr} {k : Key} {kk : List Key} {xs : List V} {ds : List D} {v : V} {d : D} (hl : kk.length = xs.length) (hn : kk.Nodup) (r : RVs G e H ds xs) (rv : RV G e H d v) :
    ∃ xs', RD G H a false (dput (kk.map kN) ds (kN k) d).1 xs' (.dK (putK (kk.zip xs) k v)) ∧ RVs G e H (dput (kk.map kN) ds (kN k) d).2 xs' := by
  unfold dput putK
  rw [any_zip k hl]
  by_cases q : kN k ∈ kk.map kN
  · rw [if_pos q, if_pos (decide_eq_true q), zip_map_put k v hl]
    exact ⟨_, .k kk _ (by simp [hl]), putV_rvs rv hl hn r⟩
  · rw [if_neg q, if_neg (by simpa using q)]
    refine ⟨xs ++ [v], ?_, r.append (.cons rv .nil)⟩
    rw [show kk.zip xs ++ [(k, v)] = (kk ++ [k]).zip (xs ++ [v]) by rw [List.zip_append hl]; rfl]
    have := RD.k (G := G) (H := H) (a := a) (kk ++ [k]) (xs ++ [v]) (by simp [hl])
    simpa using this
def putT (ts : List (NestedKey × Addr × V)) (k : NestedKey) (b : Addr) (v : V) : List (NestedKey × Addr × V) := if k ∈ ts.map (·.1) then ts.map (fun t => if t.1 = k then (t.1, t.2.1, v) else t) else ts ++ [(k, b, v)]
theorem putT_us {k : NestedKey} {b : Addr} {v : V} {u : Value} (rv : RelV v u) {ts : List (NestedKey × Addr × V)} {us : List (NestedKey × Addr × Value)} (h : PT3 ts us) (hs : (atKey us k).isSome = decide (k ∈ ts.map (·.1))) : PT3 (putT ts k b v) (storedH us k b u) := by
  unfold putT storedH
  rw [hs]
  by_cases q : k ∈ ts.map (·.1)
  · rw [if_pos q, if_pos (decide_eq_true q)]
    clear hs q
    induction h with
    | nil => exact .nil
    | @cons p q ps qs hq t ih =>
      refine .cons ?_ ih
      unfold putAt
      dsimp only
      by_cases z : p.1 = k
      · rw [if_pos z, if_pos (hq.1.symm.trans z)]
        exact ⟨hq.1, hq.2.1, rv⟩
      · rw [if_neg z, if_neg (fun w => z (hq.1.trans w))]
        exact hq
  · rw [if_neg q, if_neg (by simpa using q)]
    have : ∀ {l : List (NestedKey × Addr × V)} {m : List (NestedKey × Addr × Value)}, PT3 l m → PT3 (l ++ [(k, b, v)]) (m ++ [(k, b, u)]) := by
      intro l m h
      induction h with
      | nil => exact .cons ⟨rfl, rfl, rv⟩ .nil
      | cons hq _ ih => exact .cons hq ih
    exact this h
theorem putT_ds {G : Gc} {e : List Addr} {H : Hp} {k : NestedKey} {b : Addr} {v : V} {d : D} (rv : RV G e H d v) {ts : List (NestedKey × Addr × V)} {ds : List D} (hn : (ts.map (·.1)).Nodup) (r : RVs G e H ds (ts.map (·.2.2))) :
    (putT ts k b v).map (·.1) = (dput (ts.map (·.1)) ds k d).1 ∧ RVs G e H (dput (ts.map (·.1)) ds k d).2 ((putT ts k b v).map (·.2.2)) := by
  unfold putT dput
  by_cases q : k ∈ ts.map (·.1)
  · rw [if_pos q, if_pos q]
    refine ⟨?_, ?_⟩
    · rw [List.map_map]
      apply List.map_congr_left
      intro t _
      by_cases z : t.1 = k <;> simp [z]
    · clear q
      induction ts generalizing ds with
      | nil => cases r; exact .nil
      | cons t ts ih =>
        cases r with
        | @cons y w ds' ws r1 r2 =>
          simp only [List.map_cons, List.nodup_cons] at hn
          simp only [List.map_cons, dputV]
          by_cases z : t.1 = k
          · rw [if_pos z]
            simp only [z, if_true]
            refine .cons rv ?_
            have same : ts.map (fun t => (if t.1 = k then (t.1, t.2.1, v) else t)) = ts := by
              have : ts.map (fun t => (if t.1 = k then (t.1, t.2.1, v) else t)) = ts.map id := by
                apply List.map_congr_left
                intro t' ht'
                rw [if_neg (fun w => hn.1 (by rw [z, ← w]; exact List.mem_map_of_mem ht'))]; rfl
              rw [this, List.map_id]
            rw [same]
            exact r2
          · rw [if_neg z]
            simp only [z, if_false]
            exact .cons r1 (ih hn.2 r2)
  · rw [if_neg q, if_neg q]
    simp only [List.map_append, List.map_cons, List.map_nil]
    exact ⟨trivial, r.append (.cons rv .nil)⟩
theorem dicN_write {a : Addr} {ts ts' : List (NestedKey × Addr × V)} {us' : List (NestedKey × Addr × Value)} {h' : Heap} {t' : Nat} (I : Inv X pins σ H s) (h : H a = some (dicN X.prog X.w a ts)) (hl : ts'.length ≤ sizeLine) (hs : Heap.SameBut a s.heap h') (ht : PT3 ts' us') (hd : h'.DictOfH (nestedKind X.prog X.w) a us') (hsys : (a == sysModules) = false) :
    Inv X pins σ (upd H a (dicN X.prog X.w a ts')) { s with heap := h', toks := t' } := by
  obtain ⟨o, es, ep, h1, h2, h3, h4, h5, h6⟩ := hd
  refine d_write I (by rw [h]; exact True.intro) hs ⟨o, h1⟩ ⟨⟨hl, hsys, us', ht, o, es, ep, h1, h2, h3, h4, h6⟩, ⟨o, h1⟩, ?_⟩
  rintro g1 g2 ⟨q1, q2, us, q3, o', es', ep', q4, q5⟩ k
  exact ⟨q1, q2, us, q3, o', es', ep', k _ q4, q5⟩
theorem o_set (hu : X.A.units + 65 < cLine) : PSet X (rSet (gOf X T)) := by
  intro pins s σ H o i v ov iv u Q I ro ri rv hh
  obtain ⟨e, a, c, ob, key, d, c', rfl, hae, ha, hc, rk, rd, hset, q⟩ := hh
  have none3 : ∀ {p : Prop}, (none : Option Cell) = some c' → p := fun h => by cases h
  cases c with
  | ins _ _ => exact none3 (by cases key <;> exact hset)
  | lst xs =>
   cases key with
   | int j =>
    obtain ⟨n, hn, rfl⟩ := Option.map_eq_some_iff.mp hset
    cases hc with
    | @lst vs _ hvs =>
      cases rk
      have kp : Keep (gOf X T) e H e (upd H a (.lst (vs.set n v))) := Keep.upd1 ha (fun _ z => by cases z) (fun _ _ z => by cases z) hae
      exact set_list pins s σ H _ _ v ov iv u Q I ro ri rv ⟨a, vs, j, n, rfl, rfl, ha, by rw [← hvs.len]; exact hn, q _ (Ext.upd1 ha (fun _ z => by cases z) (fun _ _ z => by cases z) (fun _ z => by cases z) (fun _ z => by cases z) fun c q _ => lst_code (a := a)) (.lst ((RVs.set rd n hvs).keep kp))⟩
   | _ => exact none3 hset
  | dic t ks vs =>
   cases t with
   | false =>
    cases key with
    | int j =>
     unfold setC at hset
     dsimp only at hset
     split at hset
     · rename_i hlen
       cases hset
       cases hc with
       | @dic _ _ _ xs _ hrd hvs =>
         cases hrd with
         | k kk xs hl =>
           cases rk
           cases ro
           obtain ⟨xs', r1, r2⟩ := dput_k (a := a) (k := .inl j) hl (dk_nodup I ha hl) hvs rd
           have kp : Keep (gOf X T) e H e (upd H a (.dK (putK (kk.zip xs) (.inl j) v))) := Keep.upd1 ha (fun _ z => by cases z) (fun _ _ z => by cases z) hae
           refine d_setItem (by omega) I (DPut.k (k := .inl j) ha ?_) ri rv fun s' I' => ⟨_, I', q _ (Ext.upd1 ha (fun _ z => by cases z) (fun _ _ z => by cases z) (fun _ z => by cases z) (fun _ z => by cases z) fun c q _ => dK_code) (.dic (r1.ext fun _ _ z => kp.tup _ _ z) (r2.keep kp))⟩
           rw [List.length_zip, ← hl, Nat.min_self]
           exact big_lt (Nat.le_of_lt (by simpa using hlen))
     · cases hset
    | str j =>
     unfold setC at hset
     dsimp only at hset
     split at hset
     · rename_i hlen
       cases hset
       cases hc with
       | @dic _ _ _ xs _ hrd hvs =>
         cases hrd with
         | k kk xs hl =>
           cases rk
           cases ro
           obtain ⟨xs', r1, r2⟩ := dput_k (a := a) (k := .inr j) hl (dk_nodup I ha hl) hvs rd
           have kp : Keep (gOf X T) e H e (upd H a (.dK (putK (kk.zip xs) (.inr j) v))) := Keep.upd1 ha (fun _ z => by cases z) (fun _ _ z => by cases z) hae
           refine d_setItem (by omega) I (DPut.k (k := .inr j) ha ?_) ri rv fun s' I' => ⟨_, I', q _ (Ext.upd1 ha (fun _ z => by cases z) (fun _ _ z => by cases z) (fun _ z => by cases z) (fun _ z => by cases z) fun c q _ => dK_code) (.dic (r1.ext fun _ _ z => kp.tup _ _ z) (r2.keep kp))⟩
           rw [List.length_zip, ← hl, Nat.min_self]
           exact big_lt (Nat.le_of_lt (by simpa using hlen))
     · cases hset
    | _ => exact none3 hset
   | true =>
    cases key with
    | tup xs =>
     unfold setC at hset
     dsimp only at hset
     split at hset
     · rename_i k hk
       split at hset
       · rename_i hlen
         cases hset
         cases hc with
         | @dic _ _ _ xs _ hrd hvs =>
           cases hrd with
           | n ts hts =>
             have hrn := rk.rn hk
             cases rk with
             | @tup b ys _ t1 t2 =>
               cases ro
               cases ri
               obtain ⟨z1, z2, us, z3, z4⟩ := dicN_at I ha hts
               have hlt : ts.length = us.length := by
                 have : ∀ {l : List (NestedKey × Addr × V)} {m : List (NestedKey × Addr × Value)}, PT3 l m → l.length = m.length := by
                   intro l m h
                   induction h with
                   | nil => rfl
                   | cons _ _ ih => simp [ih]
                 exact this z3
               have hnd : (ts.map (·.1)).Nodup := by
                 have e1 : ∀ {l : List (NestedKey × Addr × V)} {m : List (NestedKey × Addr × Value)}, PT3 l m → m.map (·.1) = l.map (·.1) := by
                   intro l m h
                   induction h with
                   | nil => rfl
                   | cons h _ ih => simp [ih, h.1]
                 rw [← e1 z3]
                 exact z4.nodup
               have hcode : ∀ c q, a = c → dicN X.prog X.w a ts ≠ LamX.CodeO c q := code_ne I ha fun ob hob vs hd => by
                 obtain ⟨o, es, ep, h1, h2, h3, _⟩ := z4
                 rw [hob] at h1; cases h1
                 rw [hd] at h3; cases h3
               refine wpAny_setItem_heap (knd := nestedKind X.prog X.w) (k := k) (hsz := by rw [← hlt]; exact z1) (show X.A.units + 1 + 8 < cLine by omega) ⟨RN.nested I _ _ _ hrn rfl, hlen.1⟩ z4 fun h' hd' hsb => ?_
               have hs := (atKey_get (G := gOf X T) k z3 hvs).2
               have p3 := putT_us (b := b) rv z3 hs
               obtain ⟨p4, p5⟩ := putT_ds (k := k) (b := b) rd hnd hvs
               have hlen2 : (putT ts k b v).length ≤ sizeLine := by
                 unfold putT
                 split
                 · rw [List.length_map]; exact z1
                 · rw [List.length_append]
                   have : ts.length < big := by simpa using hlen.2
                   exact big_ok (show ts.length + 1 ≤ big from this)
               have I' := dicN_write (t' := s.toks + (nestedKind X.prog X.w).draws k) I ha hlen2 hsb p3 hd' z2
               have kp : Keep (gOf X T) e H e (upd H a (dicN X.prog X.w a (putT ts k b v))) := Keep.upd1 ha (fun _ z => by cases z) (fun _ _ z => by cases z) hae
               refine ⟨_, I', q _ (Ext.upd1 ha (fun _ z => by cases z) (fun _ _ z => by cases z) (fun _ z => by cases z) (fun _ z => by cases z) hcode) ?_⟩
               have hnew : ∀ t ∈ putT ts k b v, RN (gOf X T) (upd H a (dicN X.prog X.w a (putT ts k b v))) t.1 (.ref t.2.1) ∧ t.1.depth ≤ 8 := by
                 intro t ht
                 unfold putT at ht
                 split at ht
                 · obtain ⟨t0, h0, rfl⟩ := List.mem_map.mp ht
                   obtain ⟨g1, g2⟩ := hts t0 h0
                   by_cases z : t0.1 = k
                   · rw [if_pos z]; exact ⟨g1.ext fun _ _ z => kp.tup _ _ z, g2⟩
                   · rw [if_neg z]; exact ⟨g1.ext fun _ _ z => kp.tup _ _ z, g2⟩
                 · rcases List.mem_append.mp ht with h0 | h0
                   · exact ⟨(hts t h0).1.ext fun _ _ z => kp.tup _ _ z, (hts t h0).2⟩
                   · have : t = (k, b, v) := by simpa using h0
                     subst this
                     exact ⟨hrn.ext fun _ _ z => kp.tup _ _ z, hlen.1⟩
               have rdn := RD.n (G := gOf X T) (H := upd H a (dicN X.prog X.w a (putT ts k b v))) (a := a) (putT ts k b v) hnew
               rw [p4] at rdn
               exact .dic rdn (p5.keep kp)
       · cases hset
     · cases hset
            | _ => exact none3 hset
end
end Mir

/-! Mir14: statements and calls that change cells; dicts that are made; methods. -/
namespace Mir
open PySem PySem.Spec PyProof.Rows L2 RZ
def setM (fo fi fv : ME) : MS := fun ρ S => toS ρ (fv ρ S) fun uv S1 => toS ρ (fo ρ S1) fun uo S2 => toS ρ (fi ρ S2) fun ui S3 => match uo, ui, uv with
  | .c j, .d k, .d d => match S3[j]? with
    | some c => match setC c k d with
      | some c' => .nx ρ (S3.set j c')
      | none => .un
    | none => .un
  | _, _, _ => .un
def isLst : Option Cell → Bool
  | some (.lst _) => true
  | _ => false
def appM (fo fe : ME) : ME := fun ρ S => (fo ρ S).bind fun uo S1 => match uo with
  | .c j => if isLst S1[j]? = true then (fe ρ S1).bind fun ue S2 => match ue, S2[j]? with
    | .d d, some (.lst xs) => if xs.length < big then .ok (.d .non) (S2.set j (.lst (xs ++ [d]))) else .un
    | _, _ => .un
   else .un
  | _ => .un
section
variable {X : Cx} {T : List (Addr × Str)} {W : WX} {o i e value : Expr} {fo fi fv : ME} {pos p2 apos : Pos}
theorem s_setI (hu : X.A.units + 65 < cLine) (he : PE X value (tE (gOf X T) W fv)) (ho : PE X o (tE (gOf X T) W fo)) (hi : PE X i (tE (gOf X T) W fi))
    (ha : ∀ v, assign (.Subscript o i p2) X.env v = (do
      let ov ← holding [v] (eval o X.env)
      let iv ← holding [v, ov] (eval i X.env)
      standAt p2
      holding [v, ov, iv] (setItem ov iv v)
      release [v, ov, iv] []) := by intro _; rfl)
    (hs : swapsWithSole [.Subscript o i p2] value pos.line X.env = pure false := by rfl) (hw : swappedStores [.Subscript o i p2] value X.env = pure none := by rfl)
    (h1 : (assignEach [.Subscript o i p2] X.env).map (·.2) = [assign (.Subscript o i p2) X.env] := by rfl) : PS X (.Assign [.Subscript o i p2] value pos) (tS (gOf X T) W (setM fo fi fv)) :=
  ps_mono (ps_asg he (pg_sub ho hi (o_set (T := T) hu) ha) hs hw h1) fun Dn σ H h => by
    obtain ⟨x, m, ρ, S, p, h⟩ := h
    refine ⟨x, m, ρ, S, p, (Post.toS h p).mono fun uv S1 m1 H1 E1 R1 ⟨_, _, h1⟩ v rv => ?_⟩
    have p1 := p.ext E1 R1
    refine ⟨x, m1, ρ, S1, p1, (Post.toS h1 p1).mono fun uo S2 m2 H2 E2 R2 ⟨_, _, h2⟩ ov ro => ?_⟩
    have p2 := p1.ext E2 R2
    refine ⟨x, m2, ρ, S2, p2, (Post.toS h2 p2).mono fun ui S3 m3 H3 E3 R3 ⟨_, _, h3⟩ iv ri => ?_⟩
    have p3 := p2.ext E3 R3
    cases uo with
    | d _ => exact h3.elim
    | c j =>
      cases ui with
      | c _ => exact h3.elim
      | d k =>
        cases uv with
        | c _ => exact h3.elim
        | d d =>
          dsimp only at h3
          cases hj : S3[j]? with
          | none => simp only [hj] at h3; exact h3.elim
          | some c =>
            simp only [hj] at h3
            cases hs' : setC c k d with
            | none => simp only [hs'] at h3; exact h3.elim
            | some c' =>
              simp only [hs'] at h3
              cases ro.ext E3 with
              | @c _ a ha' =>
                obtain ⟨ob, o1, o2⟩ := R3.at' j a c ha' hj
                cases (rv.ext E2).ext E3 with
                | d rv =>
                  cases ri with
                  | d ri =>
                    refine ⟨x ++ m3, a, c, ob, k, d, c', rfl, List.mem_append_right _ (List.mem_of_getElem? ha'), o1, o2, ri, rv, hs', fun ob' E4 rc => ?_⟩
                    have R4 := R3.one E4 ha' upd_same rc
                    have E5 : Ext (gOf X T) m3 H3 m3 (upd H3 a ob') := E4.of_one (List.mem_of_getElem? ha')
                    exact h3 m3 _ σ E5 (p3.ext E5 R4)
theorem e_app (ho : PE X o (tE (gOf X T) W fo)) (he : PE X e (tE (gOf X T) W fv)) (hbase : attributeBase o "append" X.env (eval o X.env) = eval o X.env := by rfl)
    (hfew : ((backTo p2 (starEach [e] X.env)).all (fun x => !x.1) && (backToKw p2 (keywordEach [] X.env)).all (fun x => x.1.isSome)
      && decide ([e].length + ([] : List Keyword).length + (if ([] : List Keyword).isEmpty then 0 else 1) < 30)) = true := by rfl)
    (hline : (apos.endLine == p2.line) = true := by rfl) (hs : starEach [e] X.env = (false, eval e X.env) :: starEach [] X.env := by rfl) (hpl : (backTo p2 (starEach [] X.env)).any (·.1) = false := by rfl) :
    PE X (.Call (.Attribute o "append" apos) [e] [] p2) (tE (gOf X T) W (appM fo fv)) :=
  pe_mono (pe_bm PySem.F.plainAttrs_list PySem.F.slot_list_append PySem.F.type_list_append mt_append ho (pa_cons he pa_nil hs) hbase hfew hline hs hpl) fun σ H Q h => by
    obtain ⟨x, m, ρ, S, p, h⟩ := h
    refine ⟨x, m, ρ, S, p, (Post.bind h).mono fun uo S1 m1 H1 E1 R1 ⟨_, _, h1⟩ ov ro => ?_⟩
    have p1 := p.ext E1 R1
    cases uo with
    | d _ => exact h1.elim
    | c j =>
      dsimp only at h1
      split at h1
      case isFalse => exact h1.elim
      case isTrue hl =>
      cases ro with
      | @c _ a ha' =>
        have hjl : j < S1.length := by rw [← R1.len]; exact (List.getElem?_eq_some_iff.mp ha').1
        cases hc : S1[j]? with
        | none => rw [List.getElem?_eq_none_iff] at hc; omega
        | some c =>
          rw [hc] at hl
          obtain ⟨ob, o1, o2⟩ := R1.at' j a c ha' hc
          cases o2 with
          | dic _ _ => simp [isLst] at hl
          | ins _ _ _ => simp [isLst] at hl
          | @lst vs _ hvs =>
            refine ⟨.inl ⟨rfl, vs, .of o1⟩, x, m1, ρ, S1, p1, (Post.bind h1).mono fun ue S2 m2 H2 E2 R2 ⟨_, _, h2⟩ v rv => ?_⟩
            have ha2 : m2[j]? = some a := by
              obtain ⟨nw, e1, _⟩ := E2.pre
              rw [e1, List.getElem?_append_left (List.getElem?_eq_some_iff.mp ha').1]; exact ha'
            cases ue with
            | c _ => exact h2.elim
            | d d =>
              cases hc2 : S2[j]? with
              | none => simp only [hc2] at h2; exact h2.elim
              | some c2 =>
                rw [hc2] at h2
                cases c2 with
                | dic _ _ _ => exact h2.elim
                | ins _ _ => exact h2.elim
                | lst xs =>
                  dsimp only at h2
                  split at h2
                  case isFalse => exact h2.elim
                  case isTrue hlen =>
                  obtain ⟨ob2, g1, g2⟩ := R2.at' j a _ ha2 hc2
                  cases g2 with
                  | @lst vs2 _ hvs2 =>
                    cases rv with
                    | d rv =>
                      refine ⟨a, vs2, v, rfl, rfl, g1, by rw [← hvs2.len]; exact big_lt (Nat.le_of_lt hlen), ?_⟩
                      have E3 : Ext (gOf X T) [a] H2 [a] (upd H2 a (.lst (vs2 ++ [v]))) := Ext.upd1 g1 (fun _ z => by cases z) (fun _ _ z => by cases z) (fun _ z => by cases z) (fun _ z => by cases z) fun c q _ => lst_code (a := a)
                      have kp : Keep (gOf X T) (x ++ m2) H2 (x ++ m2) (upd H2 a (.lst (vs2 ++ [v]))) := Keep.upd1 g1 (fun _ z => by cases z) (fun _ _ z => by cases z) (List.mem_append_right _ (List.mem_of_getElem? ha2))
                      have R3 := R2.one E3 ha2 upd_same (.lst ((hvs2.append (.cons rv .nil)).keep kp))
                      exact h2 m2 _ (E3.of_one (List.mem_of_getElem? ha2)) R3 _ (.d .non)

/-! ### dicts that are made -/
/-- {} that is to be changed, with plain keys; with tuples as keys -/
def ndiM (t : Bool) : ME := fun _ S => .ok (.c S.length) (S ++ [.dic t [] []])
theorem e_ndK : PE X (.Dict [] [] pos) (tE (gOf X T) W (ndiM false)) := pe_mono pe_dnewK fun σ H Q h => by
  obtain ⟨x, m, ρ, S, p, h⟩ := h
  intro a np
  have E2 : Ext (gOf X T) m H (m ++ [a]) (upd H a (.dK [])) := Ext.cell np
  exact h (m ++ [a]) _ E2 (p.sto.cell np (.dic (.k [] [] rfl) .nil)) _ (.c (by rw [← p.sto.len]; simp))
theorem e_ndN : PE X (.Dict [] [] pos) (tE (gOf X T) W (ndiM true)) := ⟨fun pins s σ H Q I h => by
  obtain ⟨x, m, ρ, S, p, h⟩ := h
  have np : H s.heap.objs.size = none := I.hok.fresh (Nat.le_refl _)
  have hsys : (s.heap.objs.size == sysModules) = false := by
    exact beq_false_of_ne (Nat.ne_of_gt I.big)
  refine wpAny_Dict_empty ⟨.ref s.heap.objs.size, _, I.laid (a := s.heap.objs.size) (o := dicN X.prog X.w s.heap.objs.size []) (t' := s.toks) (fun _ _ q => Heap.get?_push_of_some _ q) (Nat.le_refl _) ⟨⟨Nat.zero_le _, hsys, [], .nil, ?_⟩, ⟨_, Heap.get?_push_size _ rfl⟩, ?_⟩, rfl, ?_⟩
  · obtain ⟨o, es, ep, h1, h2, h3, h4, h5, h6⟩ := Heap.DictOfH.new (knd := nestedKind X.prog X.w) s.heap
    exact ⟨o, es, ep, h1, h2, h3, h4, h6⟩
  · rintro g1 g2 ⟨q1, q2, us, q3, o', es', ep', q4, q5⟩ k
    exact ⟨q1, q2, us, q3, o', es', ep', k _ q4, q5⟩
  · have E2 : Ext (gOf X T) m H (m ++ [s.heap.objs.size]) (upd H s.heap.objs.size (dicN X.prog X.w s.heap.objs.size [])) := Ext.cell np
    refine h (m ++ [s.heap.objs.size]) _ E2 (p.sto.cell np (.dic ?_ .nil)) _ (.c (by rw [← p.sto.len]; simp))
    exact RD.n (G := gOf X T) [] (fun _ z => by cases z)⟩
end
end Mir

/-! Mir15: zip of any two; texts: walked, joined, split, written; what is never reached; a dict of the module. -/
namespace Mir
open PySem PySem.Spec PyProof.Rows L2 RZ
/-! ### never reached -/
def unM : MS := fun _ _ => .un
theorem s_un {X : Cx} {T : List (Addr × Str)} {W : WX} {st : Stmt} : PS X st (tS (gOf X T) W unM) := ⟨fun pins s σ H Dn I h => by
  obtain ⟨x, m, ρ, S, p, h⟩ := h
  exact h.elim⟩
def unE : ME := fun _ _ => .un
theorem e_un0 {X : Cx} {T : List (Addr × Str)} {W : WX} {e : Expr} : PE X e (tE (gOf X T) W unE) := ⟨fun pins s σ H Q I h => by
  obtain ⟨x, m, ρ, S, p, h⟩ := h
  exact h.elim⟩
/-! ### zip of lists, tuples -/
def SqB (t : Bool) (K : PySem.W.Frag) (H : Hp) (a : Addr) (xs : List V) : Prop := match t with
  | true => SqT K H a xs
  | false => SqL K H a xs
def itB (t : Bool) (h : Heap) (it l : Addr) (i : Nat) : Prop := match t with
  | true => h.IsTupleIter it l i
  | false => h.IsListIter it l i
def sqB (t : Bool) (h : Heap) (l : Addr) (items : Array Value) : Prop := match t with
  | true => h.IsTuple l items
  | false => h.IsList l items
theorem drawsB (t : Bool) {prog : Program} {w : World} {A : Around} (hh : A.handled = none) (it l : Addr) (hne : l ≠ it) (items : Array Value) :
    Draws prog w A it [it, l] items.size (fun i v => items[i]? = some v) (fun i h => itB t h it l i ∧ sqB t h l items) := by
  cases t
  · exact Draws.list hh it l hne items
  · exact Draws.tuple hh it l hne items
theorem itB.ex {t : Bool} {h : Heap} {it l : Addr} {i : Nat} (x : itB t h it l i) : ∃ o, h.get? it = some o ∧ ∀ v, o.data ≠ .cell v := by
  cases t
  · obtain ⟨o, e, _, d⟩ := x; exact ⟨o, e, fun v q => by rw [d] at q; cases q⟩
  · obtain ⟨o, e, _, d⟩ := x; exact ⟨o, e, fun v q => by rw [d] at q; cases q⟩
theorem itB.at {t : Bool} {h h' : Heap} {it l : Addr} {i : Nat} (x : itB t h it l i) (k : ∀ o, h.get? it = some o → h'.get? it = some o) : itB t h' it l i := by
  cases t
  · exact Heap.IsListIter.at x k
  · exact Heap.IsTupleIter.at x k
theorem SqB.items {t : Bool} {X : Cx} {pins : List (Addr × Obj)} {σ : St} {H : Hp} {s : Shared} {a : Addr} {xs : List V} (h : SqB t X.K H a xs) (I : Inv X pins σ H s) : ∃ its : List Value, Vals xs its ∧ sqB t s.heap a its.toArray ∧ a < s.heap.objs.size := by
  cases t
  · obtain ⟨its, r, p, _⟩ := I.list h
    exact ⟨its, r, p.isList, p.lt⟩
  · obtain ⟨its, r, p, _⟩ := I.tuple h
    obtain ⟨o, e, q⟩ := id p
    exact ⟨its, r, p, Heap.lt_size e⟩
theorem SqB.inj {t : Bool} {X : Cx} {pins : List (Addr × Obj)} {σ : St} {H : Hp} {s : Shared} {a : Addr} {xs ys : List V} (I : Inv X pins σ H s) (h : SqB t X.K H a xs) (h' : SqB t X.K H a ys) : xs = ys := by
  cases t
  · exact I.list_inj h h'
  · exact I.tuple_inj h h'
def ItzB (t u : Bool) (K : PySem.W.Frag) (a b : Addr) : It :=
  ⟨fun i H => ∃ (xs ys : List V) (x y : V), SqB t K H a xs ∧ SqB u K H b ys ∧ xs[i]? = some x ∧ ys[i]? = some y,
    fun i H v H' => ∃ T x y, v = .ref T ∧ H T = none ∧ H' = upd H T (.tup [x, y]) ∧ (∀ xs, SqB t K H a xs → xs[i]? = some x) ∧ ∀ ys, SqB u K H b ys → ys[i]? = some y,
    fun i H => ∃ xs ys : List V, SqB t K H a xs ∧ SqB u K H b ys ∧ (xs.length ≤ i ∨ ys.length ≤ i) ∧ i ≤ xs.length ∧ i ≤ ys.length⟩
theorem turn_zipB {t u : Bool} {P : Program} {w : World} {K : PySem.W.Frag} {elts : List Expr} {kk : Nat} {tpos : Pos} {a b z TI TO i1 i2 : Addr} (S : ZipSep2 z TI TO i1 i2 [i1, a] [i2, b]) (na : a ≠ i1) (nb : b ≠ i2) :
    Turn P w K (.Tuple elts kk tpos) (ItzB t u K a b) [z, TI, TO, i1, i2] z (fun i h => IsZip h z TI TO .none ∧ IsTupOf2 h TI (.ref i1) (.ref i2) ∧ (∃ x y, IsTupOf2 h TO x y) ∧ itB t h i1 a i ∧ itB u h i2 b i) where
  mem := by simp
  obj := fun i h st c hc => by
    obtain ⟨hz, hTI, ⟨x, y, hTO⟩, h1, h2⟩ := st
    have e' : c = z ∨ c = TI ∨ c = TO ∨ c = i1 ∨ c = i2 := by simpa using hc
    rcases e' with q | q | q | q | q
    · rw [q]; exact ⟨_, hz, fun v q => nomatch q⟩
    · rw [q]; exact ⟨_, hTI, fun v q => nomatch q⟩
    · rw [q]; exact ⟨_, hTO, fun v q => nomatch q⟩
    · rw [q]; exact h1.ex
    · rw [q]; exact h2.ex
  keep := fun i h h' st k => by
    obtain ⟨hz, hTI, ⟨x, y, hTO⟩, h1, h2⟩ := st
    exact ⟨k z (by simp) _ hz, k TI (by simp) _ hTI, ⟨x, y, k TO (by simp) _ hTO⟩, h1.at fun o q => k i1 (by simp) o q, h2.at fun o q => k i2 (by simp) o q⟩
  item := by
    intro X hP hw hK hc i pins s σ H E I hf st hg
    subst hP hw hK
    obtain ⟨hz, hTI, ⟨x0, y0, hTO⟩, h1, h2⟩ := st
    obtain ⟨xs, ys, x, y, hqx, hqy, hx, hy⟩ := hg
    obtain ⟨its, rv, p, _⟩ := hqx.items I
    obtain ⟨its2, rv2, p2, _⟩ := hqy.items I
    obtain ⟨v1, hu, ru⟩ := rv.get hx
    obtain ⟨v2, hu2, ru2⟩ := rv2.get hy
    have hzl : z < s.heap.objs.size := Heap.lt_size hz
    have hi1 : i1 < s.heap.objs.size := by obtain ⟨o, e, _⟩ := h1.ex; exact Heap.lt_size e
    have hi2 : i2 < s.heap.objs.size := by obtain ⟨o, e, _⟩ := h2.ex; exact Heap.lt_size e
    refine wpAny_pyNext_zipD2_item (A := X.A) S (drawsB t (A := X.A.in1) (I.ok.hd hc) i1 a na its.toArray) (drawsB u (A := X.A.in1) (I.ok.hd hc) i2 b nb its2.toArray) hz hTI hTO ⟨h1, p⟩ ⟨h2, p2⟩ (by have := (List.getElem?_eq_some_iff.mp hu).1; simpa using this) (by have := (List.getElem?_eq_some_iff.mp hu2).1; simpa using this) fun x1 x2 h' tk y1 y2 z' TO' h1' h2' hT hsz hk => ?_
    have e1 : x1 = v1 := by
      have q : its[i]? = some x1 := by simpa using y1
      rw [hu] at q; exact (Option.some.inj q).symm
    have e2 : x2 = v2 := by
      have q : its2[i]? = some x2 := by simpa using y2
      rw [hu2] at q; exact (Option.some.inj q).symm
    subst e1 e2
    refine ⟨_, rfl, wpAny_letOwnedTupleGo_zip (s := { s with heap := h', toks := tk }) z' fun h'' z'' sb => ?_⟩
    have hT2 : h''.get? s.heap.objs.size = some { cls := .type "tuple", data := .seq #[x1, x2] } := (sb.2 _ (Nat.ne_of_gt hzl)).trans hT
    have new : ObjOk X.prog X.w (upd H s.heap.objs.size (.tup [x, y])) h'' s.heap.objs.size (.tup [x, y]) :=
      ⟨by show 2 ≤ sizeLine; decide, [x1, x2], .cons ru (.cons ru2 .nil), ⟨_, hT2, rfl, _, rfl⟩⟩
    have I1 : Inv X pins σ (upd H s.heap.objs.size (.tup [x, y])) { s with heap := h'', toks := tk } :=
      I.turnedNew (t' := tk) (ch := [z, TI, TO, i1, i2]) (fun c o hb q => (sb.2 c (fun q' => hb (by simp [q']))).trans (hk c o (fun q' => hb (by simp [q'])) (fun q' => hb (by simp [q'])) (fun q' => hb (by simp [q'])) (fun q' => hb (by simp [q'])) q)) hf (Nat.le_refl _) new
    refine ⟨.ref s.heap.objs.size, _, I1, rfl, ⟨_, x, y, rfl, I.hok.fresh (Nat.le_refl _), rfl, fun l hl => by rw [SqB.inj I hl hqx]; exact hx, fun l hl => by rw [SqB.inj I hl hqy]; exact hy⟩, ⟨z'', ?_, ⟨x1, x2, ?_⟩, ?_, ?_⟩, fun c hcm => ?_⟩
    · exact (sb.2 _ S.TIz).trans (hk _ _ S.TIz S.TITO S.TIi1 S.TIi2 hTI)
    · exact (sb.2 _ S.TOz).trans TO'
    · exact h1'.1.at fun o q => (sb.2 _ S.zi1.symm).trans q
    · exact h2'.1.at fun o q => (sb.2 _ S.zi2.symm).trans q
    · have hlt : c < s.heap.objs.size := by
        have e' : c = z ∨ c = TI ∨ c = TO ∨ c = i1 ∨ c = i2 := by simpa using hcm
        rcases e' with q | q | q | q | q
        · rw [q]; exact hzl
        · rw [q]; exact Heap.lt_size hTI
        · rw [q]; exact Heap.lt_size hTO
        · rw [q]; exact hi1
        · rw [q]; exact hi2
      rw [upd_ne (Nat.ne_of_lt hlt)]
      exact (hf c hcm).1
  done := by
    intro X hP hw hK hc i pins s σ H E I hf st hg
    subst hP hw hK
    obtain ⟨hz, hTI, ⟨x0, y0, hTO⟩, h1, h2⟩ := st
    obtain ⟨xs, ys, hqx, hqy, hend, le1, le2⟩ := hg
    obtain ⟨its, rv, p, _⟩ := hqx.items I
    obtain ⟨its2, rv2, p2, _⟩ := hqy.items I
    have l1 := rv.length
    have l2 := rv2.length
    have z1 : its.toArray.size = its.length := by simp
    have z2 : its2.toArray.size = its2.length := by simp
    refine wpAny_pyNext_zipD2_end (i := i) (A := X.A) S (drawsB t (A := X.A.in1) (I.ok.hd hc) i1 a na its.toArray) (drawsB u (A := X.A.in1) (I.ok.hd hc) i2 b nb its2.toArray) hz hTI hTO ⟨h1, p⟩ ⟨h2, p2⟩ (by omega) (by omega) (by omega) fun h' tk hk => ?_
    exact ⟨rfl, I.turnedL (t' := tk) (ch := [z, TI, TO, i1, i2]) (fun c o hb q =>
      hk c o (fun q' => hb (by simp [q'])) (fun q' => hb (by simp [q'])) (fun q' => hb (by simp [q'])) (fun q' => hb (by simp [q'])) q) hf⟩
  self := fun A i s Q E st h => wpAny_pyIter_zip st.1 h
theorem begB (t : Bool) (l : Addr) (items : Array Value) : ∃ o, Begins (.ref l) o (fun h => sqB t h l items) ∧ ∀ h it, h.get? it = some o → itB t h it l 0 := by
  cases t
  · exact ⟨_, begins_list l items, fun h it e => ⟨_, e, rfl, rfl⟩⟩
  · exact ⟨_, begins_tuple l items, fun h it e => ⟨_, e, rfl, rfl⟩⟩
def iZipB (K : PySem.W.Frag) (ta : TA) : TI := fun σ H R => ta σ H fun vs H1 => ∃ t u a b xs ys, vs = [.ref a, .ref b] ∧ SqB t K H1 a xs ∧ SqB u K H1 b ys ∧ R (ItzB t u K a b) H1
theorem pi_zipB {X : Cx} {e e2 : Expr} {ta : TA} {p pos tpos : Pos} {elts : List Expr} {kk : Nat} (hg : Gl X "zip") (hm : X.mg "zip" = none) (ha : PA X [e, e2] ta)
    (hs : starEach [e, e2] X.env = (false, eval e X.env) :: starEach [e2] X.env := by rfl) (hpl : (backTo pos (starEach [e2] X.env)).any (·.1) = false := by rfl) :
    PI X (.Tuple elts kk tpos) (.Call (.Name "zip" p) [e, e2] [] pos) (iZipB X.K ta) := by
  refine ⟨fun pins s σ H R I h => ?_⟩
  refine Call_ (ld_blt I hg hm PyProof.Rows.boot_zip (PyProof.Rows.callWith_type1 (thn (ha.run pos pins s σ H _ I h) fun us s1 ⟨vs, H1, I1, r1, q1⟩ => ?_) hs hpl))
  obtain ⟨t, u, a, b, xs, ys, ex, hqx, hqy, q⟩ := q1
  subst ex
  cases r1 with
  | cons r rr =>
    cases rr with
    | cons r' rr =>
      cases rr
      cases r
      cases r'
      have fresh5 : ∀ c, c ∈ [s1.heap.objs.size + 4, s1.heap.objs.size + 2, s1.heap.objs.size + 3, s1.heap.objs.size, s1.heap.objs.size + 1] → FpOk X pins H1 c := fun c hcm => by
        have e' : c = s1.heap.objs.size + 4 ∨ c = s1.heap.objs.size + 2 ∨ c = s1.heap.objs.size + 3 ∨ c = s1.heap.objs.size ∨ c = s1.heap.objs.size + 1 := by simpa using hcm
        have hle : s1.heap.objs.size ≤ c := by omega
        exact I1.fpOk hle (I1.hok.fresh hle)
      obtain ⟨its, rv, p1, l1⟩ := hqx.items I1
      obtain ⟨its2, rv2, p2, l2⟩ := hqy.items I1
      obtain ⟨o1, B1, b1⟩ := begB t a its.toArray
      obtain ⟨o2, B2, b2⟩ := begB u b its2.toArray
      refine zip_begins2 B1 B2 p1 p2 fun h' hz hTI hTO h1 h2 hsz hk => wpAny_pyIter_zip hz ?_
      have I2 : Inv X pins σ H1 { s1 with heap := h' } := I1.kept (t' := s1.toks) hk
      refine ⟨s1.heap.objs.size + 4, [s1.heap.objs.size + 4, s1.heap.objs.size + 2, s1.heap.objs.size + 3, s1.heap.objs.size, s1.heap.objs.size + 1], _, _, H1, rfl, I2, turn_zipB ⟨?_, ?_, ?_, ?_, ?_, ?_, ?_, ?_, ?_, ?_, ?_, ?_, ?_⟩ (Nat.ne_of_lt l1) (Nat.ne_of_lt (Nat.lt_succ_of_lt l2)), ⟨hz, hTI, ⟨_, _, hTO⟩, b1 _ _ h1, b2 _ _ h2⟩, fresh5, q⟩
      all_goals (have q1 : ∀ k, s1.heap.objs.size + k ≠ a := fun k => Nat.ne_of_gt (Nat.lt_of_lt_of_le l1 (Nat.le_add_right _ _)))
      all_goals (have q2 : ∀ k, s1.heap.objs.size + k ≠ b := fun k => Nat.ne_of_gt (Nat.lt_of_lt_of_le l2 (Nat.le_add_right _ _)))
      all_goals (have q3 := q1 0)
      all_goals (have q4 := q2 0)
      all_goals (rw [Nat.add_zero] at q3 q4)
      all_goals (simp [q1, q2, q3, q4])
section
variable {G : Gc} {x m : List Addr} {H : Hp} {a b : Addr} {ds es : List D} {xs ys : List V}
/-- a list that is no cell, or a tuple -/
def SqD (G : Gc) (e : List Addr) (t : Bool) (H : Hp) (a : Addr) (xs : List V) : Prop := match t with
  | true => SqT G.K H a xs
  | false => H a = some (.lst xs) ∧ a ∉ e
theorem SqD.ext {t : Bool} {x2 m2 : List Addr} {H2 : Hp} (h : SqD G (x ++ m) t H a xs) (E : Ext G m H m2 H2) : SqB t G.K H2 a xs := by
  cases t
  · exact .inl (.inl (E.keep _ _ h.1 (fun z => h.2 (List.mem_append_right _ z)) (fun ps z => by cases z)))
  · exact SqT.ext E h
theorem pairs_stop : ∀ {ds es : List D} {i : Nat}, i ≤ (pairs ds es).length → i ≤ ds.length ∧ i ≤ es.length
  | _, _, 0, _ => ⟨Nat.zero_le _, Nat.zero_le _⟩
  | [], _, i + 1, h => by simp [pairs] at h
  | _ :: _, [], i + 1, h => by simp [pairs] at h
  | d :: ds, e :: es, i + 1, h => by
    have := pairs_stop (ds := ds) (es := es) (i := i) (by simpa [pairs] using h)
    simp only [List.length_cons]; omega
theorem yl_zipB {t u : Bool} (h : SqD G (x ++ m) t H a xs) (h' : SqD G (x ++ m) u H b ys) (r : RVs G (x ++ m) H ds xs) (r' : RVs G (x ++ m) H es ys) : Yl G x m H (ItzB t u G.K a b) (pairs ds es) := fun x2 m2 H2 hx E tr i => by
  have h2 := h.ext (x2 := x2) E
  have h2' := h'.ext (x2 := x2) E
  have r2 := r.keep (E.kp2 hx)
  have r2' := r'.keep (E.kp2 hx)
  refine ⟨fun d hd => ?_, fun hl => ⟨xs, ys, h2, h2', by rw [← r.len, ← r'.len]; exact pairs_get.2 (Nat.le_of_eq hl), by rw [← r.len]; exact (pairs_stop (Nat.le_of_eq hl.symm)).1, by rw [← r'.len]; exact (pairs_stop (Nat.le_of_eq hl.symm)).2⟩⟩
  obtain ⟨d1, d2, g1, g2, rfl⟩ := pairs_get.1 d hd
  obtain ⟨v, q1, q2⟩ := r2.get g1
  obtain ⟨v', q1', q2'⟩ := r2'.get g2
  refine ⟨⟨xs, ys, v, v', h2, h2', q1, q1'⟩, fun w H3 ⟨T, y1, y2, e1, e2, e3, e4, e5⟩ => ?_⟩
  have z1 := e4 xs h2
  have z2 := e5 ys h2'
  rw [q1] at z1
  rw [q1'] at z2
  cases z1
  cases z2
  subst e1 e3
  exact newPair e2 tr q2 q2'
end
def seqU : U → Option (List D)
  | .d (.tup xs) => some xs
  | .d (.lst xs) => some xs
  | _ => none
def zpBI (f g : ME) : MI := fun ρ S => (argsM [f, g] ρ S).bind fun us S1 => match us with
  | [u, v] => match seqU u, seqU v with
    | some xs, some ys => .ok (pairs xs ys) S1
    | _, _ => .un
  | _ => .un
theorem seqU_ok {G : Gc} {e m : List Addr} {H : Hp} {u : U} {v : V} {ds : List D} (r : RU G e m H u v) (h : seqU u = some ds) : ∃ t a xs, v = .ref a ∧ SqD G e t H a xs ∧ RVs G e H ds xs := by
  unfold seqU at h
  split at h
  · cases h
    cases r with
    | d r => cases r with
      | tup t1 t2 => exact ⟨true, _, _, rfl, t1, t2⟩
  · cases h
    cases r with
    | d r => cases r with
      | lst t1 tn t2 => exact ⟨false, _, _, rfl, ⟨t1, tn⟩, t2⟩
  · cases h
theorem SqD.b {G : Gc} {e : List Addr} {t : Bool} {H : Hp} {a : Addr} {xs : List V} (h : SqD G e t H a xs) : SqB t G.K H a xs := by
  cases t
  · exact .inl (.inl h.1)
  · exact h
section
variable {X : Cx} {T : List (Addr × Str)} {W : WX} {tg e e2 : Expr} {f g : ME} {p pos : Pos}
theorem i_zip2 {elts : List Expr} {kk : Nat} {tpos : Pos} (hm : X.mg "zip" = none) (ha : PA X [e, e2] (tA (gOf X T) W (argsM [f, g]))) (hg : Gl X "zip" := by rfl) (hs : starEach [e, e2] X.env = (false, eval e X.env) :: starEach [e2] X.env := by rfl) (hpl : (backTo pos (starEach [e2] X.env)).any (·.1) = false := by rfl) :
    PI X (.Tuple elts kk tpos) (.Call (.Name "zip" p) [e, e2] [] pos) (tI (gOf X T) W (zpBI f g)) := pi_mono (pi_zipB hg hm ha hs hpl) fun σ H R h => by
  obtain ⟨x, m, ρ, S, p, h⟩ := h
  refine ⟨x, m, ρ, S, p, (Post.bind h).mono fun us S1 m1 H1 E1 R1 ⟨_, _, h1⟩ vs rvs => ?_⟩
  split at h1
  · split at h1
    · rename_i xs ys q1 q2
      cases rvs with
      | cons r t => cases t with
        | cons r' t =>
          cases t
          obtain ⟨t, a, zs, rfl, s1, s2⟩ := seqU_ok r q1
          obtain ⟨t', b, zs', rfl, s3, s4⟩ := seqU_ok r' q2
          exact ⟨t, t', a, b, zs, zs', rfl, s1.b, s3.b, h1 m1 H1 Ext.refl R1 _ (yl_zipB s1 s3 s2 s4)⟩
    · exact h1.elim
  · exact h1.elim

/-! ### texts -/
def chs (x : Str) : List D := x.cps.toList.map fun c => .str ⟨#[c]⟩
def strI (f : ME) : MI := fun ρ S => (f ρ S).bind fun u S1 => match u with
  | .d (.str x) => .ok (chs x) S1
  | _ => .un
theorem yl_str {G : Gc} {x m : List Addr} {H : Hp} {z : Str} : Yl G x m H (Its z) (chs z) := fun x2 m2 H2 hx E tr i => by
  refine ⟨fun d hd => ?_, fun hl => (by show z.cps.size ≤ i; rw [← hl]; simp [chs])⟩
  unfold chs at hd
  rw [List.getElem?_map] at hd
  cases q : z.cps.toList[i]? with
  | none => rw [q] at hd; cases hd
  | some c =>
    rw [q] at hd
    cases hd
    have q' : z.cps[i]? = some c := by simpa using q
    refine ⟨(Array.getElem?_eq_some_iff.mp q').1, fun v H3 ⟨e1, c', e2, e3⟩ => ?_⟩
    subst e1 e3
    rw [q'] at e2
    cases e2
    exact ⟨Ext.refl, fun _ _ _ => rfl, .str _⟩
theorem i_str (he : PE X e (tE (gOf X T) W f)) : PI X tg e (tI (gOf X T) W (strI f)) := pi_mono (pi_str he) fun σ H R h => by
  obtain ⟨x, m, ρ, S, p, h⟩ := h
  refine ⟨x, m, ρ, S, p, (Post.bind h).mono fun u S1 m1 H1 E1 R1 ⟨_, _, h1⟩ v rv => ?_⟩
  split at h1
  · cases rv with
    | d r =>
      cases r
      exact ⟨_, rfl, h1 m1 H1 Ext.refl R1 _ yl_str⟩
  · exact h1.elim
def strG : List D → Option D
  | [.int i] => if i.natAbs.log2 < 1920 then some (.str (toString i)) else none
  | [.str x] => some (.str x)
  | _ => none
theorem c_str : CallR X (.type "str") (rC (gOf X T) strG) := by
  intro pins s σ H vs us Q I rs ⟨ds, z, e, m, hg, tr, r, q⟩
  unfold strG at hg
  split at hg
  · split at hg
    · rename_i hl
      cases hg
      obtain ⟨v, rfl, r1⟩ := r.one
      cases r1.int
      exact call_str_int pins s σ H _ us Q I rs ⟨_, rfl, hl, q _ _ Ext.refl (noKeep rfl) (.str _)⟩
    · cases hg
  · cases hg
    obtain ⟨v, rfl, r1⟩ := r.one
    cases r1.str
    exact SkE.call_str_str pins s σ H _ us Q I rs ⟨_, rfl, q _ _ Ext.refl (noKeep rfl) (.str _)⟩
  · cases hg

/-! ### methods of texts -/
def meM (g : D → List D → Option D) (fo : ME) (fs : List ME) : ME := fun ρ S => (fo ρ S).bind fun u S1 => match u with
  | .d (.str z) => (argsM fs ρ S1).bind fun us S2 => match rds S2 us with
    | some ds => match g (.str z) ds with
      | some z => .ok (.d z) S2
      | none => .un
    | none => .un
  | _ => .un
def rM (G : Gc) (g : D → List D → Option D) : V → List V → Hp → VK → Prop := fun v vs H Q => ∃ z ds d e m, v = .str z ∧ g (.str z) ds = some d ∧ (∀ b ∈ e, ∃ o, H b = some o) ∧ RTs G e H ds vs ∧
  ∀ H' w, Ext G m H m H' → (∀ a ∈ m, H a ≠ none → H' a = H a) → RV G e H' d w → Q w H'
theorem me_red {g : D → List D → Option D} {fs : List ME} {σ : St} {H : Hp} {Q : VK} (h : tE (gOf X T) W (meM g f fs) σ H Q) : tBM X.K "str" (rM (gOf X T) g) (tE (gOf X T) W f) (tA (gOf X T) W (argsM fs)) σ H Q := by
  obtain ⟨x, m, ρ, S, p, h⟩ := h
  refine ⟨x, m, ρ, S, p, (Post.bind h).mono fun u S1 m1 H1 E1 R1 ⟨_, _, h1⟩ v rv => ?_⟩
  cases u with
  | c _ => exact h1.elim
  | d dd =>
   cases dd with
   | str z =>
    cases rv with
    | d r =>
      cases r
      have p1 := p.ext E1 R1
      refine ⟨rfl, x, m1, ρ, S1, p1, (Post.bind h1).mono fun us S2 m2 H2 E2 R2 ⟨_, _, h2⟩ vs rvs => ?_⟩
      have p2 := p1.ext E2 R2
      split at h2
      · rename_i ds q1
        split at h2
        · rename_i d q3
          exact ⟨z, ds, d, x ++ m2, m2, rfl, q3, p2.trk, RUs.rts R2 rvs q1, fun H' w' E3 hs r => h2 m2 H' E3 (R2.stay E3 fun a ha => hs a ha (by obtain ⟨o, q⟩ := R2.live ha; rw [q]; simp)) w' (.d r)⟩
        · exact h2.elim
      · exact h2.elim
   | _ => exact h1.elim
theorem e_me {id : String} {name : Str} {g : D → List D → Option D} {o : Expr} {es : List Expr} {fs : List ME} {apos : Pos} (slot : Slot "str" name id) (hty : typeOf (.builtin id) = pure (.type "method_descriptor")) (hm : MtR X id (rM (gOf X T) g)) (ho : PE X o (tE (gOf X T) W f)) (ha : PA X (e :: es) (tA (gOf X T) W (argsM fs)))
    (hbase : attributeBase o name X.env (eval o X.env) = eval o X.env := by rfl)
    (hfew : ((backTo pos (starEach (e :: es) X.env)).all (fun x => !x.1) && (backToKw pos (keywordEach [] X.env)).all (fun x => x.1.isSome)
      && decide ((e :: es).length + ([] : List Keyword).length + (if ([] : List Keyword).isEmpty then 0 else 1) < 30)) = true := by rfl)
    (hline : (apos.endLine == pos.line) = true := by rfl) (hs : starEach (e :: es) X.env = (false, eval e X.env) :: starEach es X.env := by rfl) (hplain : (backTo pos (starEach es X.env)).any (·.1) = false := by rfl) :
    PE X (.Call (.Attribute o name apos) (e :: es) [] pos) (tE (gOf X T) W (meM g f fs)) :=
  pe_mono (pe_bm PySem.F.plainAttrs_str slot hty hm ho ha hbase hfew hline hs hplain) fun σ H Q h => me_red h
def joinG : D → List D → Option D
  | .str a, [.lst xs] => match strsOf xs with
    | some ys => if (ys.map (·.length)).sum + ys.length * a.length ≤ big then some (.str (Txt.join a ys)) else none
    | none => none
  | .str a, [.tup xs] => match strsOf xs with
    | some ys => if (ys.map (·.length)).sum + ys.length * a.length ≤ big then some (.str (Txt.join a ys)) else none
    | none => none
  | _, _ => none
theorem big_join {n : Nat} (h : n ≤ big) : n ≤ 16777216 := Nat.le_trans h (by decide)
theorem mt_joinG : MtR X "str.join" (rM (gOf X T) joinG) := by
  intro pins s σ H x xs v us Q I rx rs ⟨z, ds, d, e, m, ez, hg, tr, r, q⟩
  subst ez
  unfold joinG at hg
  split at hg
  · rename_i q1
    cases q1
    split at hg
    · rename_i ys hy
      split at hg
      · rename_i hl
        cases hg
        obtain ⟨v, rfl, r1⟩ := r.one
        obtain ⟨a, vs, rfl, g1, g2⟩ := r1.lst'
        cases g2.strs hy
        exact mt_join pins s σ H _ _ _ us Q I rx rs ⟨_, a, ys, rfl, rfl, .inl (.of g1), big_join hl, q _ _ Ext.refl (noKeep rfl) (.str _)⟩
      · cases hg
    · cases hg
  · rename_i q1
    cases q1
    split at hg
    · rename_i ys hy
      split at hg
      · rename_i hl
        cases hg
        obtain ⟨v, rfl, r1⟩ := r.one
        obtain ⟨a, vs, rfl, g1, g2⟩ := r1.tup
        cases g2.strs hy
        exact mt_join pins s σ H _ _ _ us Q I rx rs ⟨_, a, ys, rfl, rfl, .inr g1, big_join hl, q _ _ Ext.refl (noKeep rfl) (.str _)⟩
      · cases hg
    · cases hg
  · cases hg
def splG : D → List D → Option D
  | .str a, [.str b] => if b.length ≠ 0 ∧ a.length ≤ big then some (.lst ((Txt.split a b).map .str)) else none
  | _, _ => none
theorem rvs_strs {G : Gc} {e : List Addr} {H : Hp} : ∀ ns : List Str, RVs G e H (ns.map D.str) (ns.map V.str)
  | [] => .nil
  | n :: ns => .cons (.str n) (rvs_strs ns)
theorem mt_splG : MtR X "str.split" (rM (gOf X T) splG) := by
  intro pins s σ H x xs v us Q I rx rs ⟨z, ds, d, e, m, ez, hg, tr, r, q⟩
  subst ez
  unfold splG at hg
  split at hg
  · rename_i q1
    cases q1
    split at hg
    · rename_i hl
      cases hg
      obtain ⟨v, rfl, r1⟩ := r.one
      cases r1.str
      exact mt_split pins s σ H _ _ _ us Q I rx rs ⟨_, _, rfl, rfl, by simpa using hl.1, Nat.le_trans (Nat.add_le_add_right hl.2 2) (by rw [sizeLine_eq]; decide), fun p np => q _ _ (Ext.new np) (newKeep np) (RV.newLst (rvs_strs _) np tr)⟩
    · cases hg
  · cases hg
abbrev joiM (f g : ME) : ME := meM joinG f [g]
abbrev splM (f g : ME) : ME := meM splG f [g]

/-! ### a dict of the module: texts as keys -/
def dlk : List (Str × D) → Str → Option D
  | [], _ => none
  | (k, v) :: r, x => if k = x then some v else dlk r x
structure KM (G : Gc) (x : Str) (tbl : List (Str × D)) : Prop where
  ex : ∃ (a : Addr) (es : Array DictEntry) (n : Nat), G.mg x = some (.ref a) ∧ G.K.lookup a = some ⟨.type "dict", none, .dict es n, #[]⟩ ∧ PySem.W.KeysLit G.w.params es.toList ∧ (a == sysModules) = false ∧
    ∀ z, ∃ r, PySem.W.nsIn G.K a z = some r ∧ match dlk tbl z with
      | none => r = none
      | some d => ∃ u v, r = some u ∧ RelV v u ∧ ∀ e H, RV G e H d v
def kmIx (tbl : List (Str × D)) (f : ME) : ME := fun ρ S => (f ρ S).bind fun u S1 => match u with
  | .d (.str z) => match dlk tbl z with
    | some d => .ok (.d d) S1
    | none => .un
  | _ => .un
def kmIn (tbl : List (Str × D)) (f : ME) : ME := fun ρ S => (f ρ S).bind fun u S1 => match u with
  | .d (.str z) => .ok (.d (.bl (dlk tbl z).isSome)) S1
  | _ => .un
theorem e_kmIx {x : Str} {tbl : List (Str × D)} {b : Expr} {px : Pos} (h : KM (gOf X T) x tbl) (hb : PE X b (tE (gOf X T) W f)) (hg : Gl X x := by rfl) (hd : (x == ("__debug__" : Str)) = false := by decide) (hs : PlainIx b := by intro _ _; rfl) :
    PE X (.Subscript (.Name x px) b pos) (tE (gOf X T) W (kmIx tbl f)) := by
  obtain ⟨a, es, n, h1, h2, h3, h4, h5⟩ := h.ex
  refine pe_mono (pe_ix (r := fun vx vy H Q => vx = .ref a ∧ ∃ z v, vy = .str z ∧ KDct X.K X.w a z v ∧ Q v H) (fun value slice pins s σ H x y v u Q I rx ry h hs => ?_) (pe_glob hg h1 (v := .ref a) rfl hd) hb hs) fun σ H Q h => ?_
  · obtain ⟨e1, z, r, e2, e3, q⟩ := h
    exact ix_kdict value slice pins s σ H x y v u Q I rx ry ⟨a, z, r, e1, e2, e3, q⟩ hs
  · obtain ⟨y, m, ρ, S, p, h⟩ := h
    refine ⟨y, m, ρ, S, p, (Post.bind h).mono fun u S1 m1 H1 E1 R1 ⟨_, _, h1'⟩ v rv => ?_⟩
    cases u with
    | c _ => exact h1'.elim
    | d dd =>
     cases dd with
     | str z =>
      cases rv with
      | d r =>
        cases r
        dsimp only at h1'
        split at h1'
        · rename_i d hd'
          obtain ⟨r, r1, r2⟩ := h5 z
          rw [hd'] at r2
          obtain ⟨u, v, rfl, r3, r4⟩ := r2
          exact ⟨rfl, z, v, rfl, ⟨es, n, u, h2, h3, r1, r3⟩, h1' m1 H1 Ext.refl R1 _ (.d (r4 _ _))⟩
        · exact h1'.elim
     | _ => exact h1'.elim
theorem e_kmIn {x : Str} {tbl : List (Str × D)} {b : Expr} {px : Pos} (h : KM (gOf X T) x tbl) (hb : PE X b (tE (gOf X T) W f)) (hg : Gl X x := by rfl) (hd : (x == ("__debug__" : Str)) = false := by decide) :
    PE X (.Compare b [.In] [.Name x px] pos) (tE (gOf X T) W (kmIn tbl f)) := by
  obtain ⟨a, es, n, h1, h2, h3, h4, h5⟩ := h.ex
  refine pe_mono (pe_cmpR (op_in_kd ⟨h2, h3, h4⟩) hb (pe_glob hg h1 (v := .ref a) rfl hd) (by first | exact nomark _ | rfl)) fun σ H Q h => ?_
  obtain ⟨y, m, ρ, S, p, h⟩ := h
  refine ⟨y, m, ρ, S, p, (Post.bind h).mono fun u S1 m1 H1 E1 R1 ⟨_, _, h1'⟩ v rv => ?_⟩
  cases u with
  | c _ => exact h1'.elim
  | d dd =>
   cases dd with
   | str z =>
    cases rv with
    | d r =>
      cases r
      obtain ⟨r, r1, r2⟩ := h5 z
      refine ⟨z, r, rfl, rfl, r1, ?_⟩
      have er : r.isSome = (dlk tbl z).isSome := by
        revert r2
        cases dlk tbl z with
        | none => intro r2; subst r2; rfl
        | some d => rintro ⟨u, v, rfl, _⟩; rfl
      rw [er]
      exact h1' m1 H1 Ext.refl R1 _ (.d (.bl _))
   | _ => exact h1'.elim
end
end Mir

/-! Mir16: the end: constants of the module; the law's own promise. -/
namespace Mir
open PySem PySem.Spec PyProof.Rows L2 RZ
mutual
/-- data of the module -/
inductive KVal (K : PySem.W.Frag) : D → Value → Prop
  | non : KVal K .non .none
  | bl (b : Bool) : KVal K (.bl b) (.bool b)
  | int (i : Int) (t : Tok) : KVal K (.int i) (.int i t)
  | str (x : Str) (t : Tok) : KVal K (.str x) (.str x t)
  | tup {a : Addr} {dd : Option Addr} {its : Array Value} {n : Nat} {sl : Array (Option Value)} {ds : List D} : K.lookup a = some ⟨.type "tuple", dd, .seq its n, sl⟩ → its.size ≤ 1000 → KVals K ds its.toList → KVal K (.tup ds) (.ref a)
inductive KVals (K : PySem.W.Frag) : List D → List Value → Prop
  | nil : KVals K [] []
  | cons {d : D} {u : Value} {ds : List D} {us : List Value} : KVal K d u → KVals K ds us → KVals K (d :: ds) (u :: us)
end
section
variable {G : Gc}
mutual
theorem KVal.ok : ∀ {d : D} {u : Value}, KVal G.K d u → ∃ v, RelV v u ∧ ∀ e H, RV G e H d v
  | _, _, .non => ⟨.non, rfl, fun _ _ => .non⟩
  | _, _, .bl b => ⟨.bl b, rfl, fun _ _ => .bl b⟩
  | _, _, .int i t => ⟨.int i, ⟨t, rfl⟩, fun _ _ => .int i⟩
  | _, _, .str x t => ⟨.str x, ⟨t, rfl⟩, fun _ _ => .str x⟩
  | _, _, .tup (a := a) (its := its) h1 h2 h3 => by
    obtain ⟨vs, h4, h5⟩ := KVals.ok h3
    exact ⟨.ref a, rfl, fun e H => .tup (.inr ⟨_, its, _, h1, rfl, rfl, Nat.le_of_lt (small1000 h2), h4⟩) (h5 e H)⟩
theorem KVals.ok : ∀ {ds : List D} {us : List Value}, KVals G.K ds us → ∃ vs, Vals vs us ∧ ∀ e H, RVs G e H ds vs
  | _, _, .nil => ⟨[], .nil, fun _ _ => .nil⟩
  | _, _, .cons h t => by
    obtain ⟨v, h1, h2⟩ := KVal.ok h
    obtain ⟨vs, h3, h4⟩ := KVals.ok t
    exact ⟨v :: vs, .cons h1 h3, fun e H => .cons (h2 e H) (h4 e H)⟩
end
end
section
variable {P : Program} {w : World} {K : PySem.W.Frag} {mg : Str → Option Value} {T : List (Addr × Str)} {h : Heap} {x : Str}
theorem kd_of {d : D} {u : Value} (X : K.In h) (G : h.Ns mainGlobals mg) (a : PySem.W.nsIn K mainGlobals x = some (some u)) (q : KVal K d u) : KD ⟨P, w, K, mg, T⟩ x d := by
  obtain ⟨v, h1, h2⟩ := KVal.ok (G := ⟨P, w, K, mg, T⟩) q
  exact ⟨u, v, PySem.W.mg_of X G a, h1, h2⟩
/-- the values of a written dict -/
inductive KEnts (K : PySem.W.Frag) : List (Str × D) → List DictEntry → Prop
  | nil : KEnts K [] []
  | cons {x : Str} {d : D} {e : DictEntry} {t : Tok} {ds : List (Str × D)} {es : List DictEntry} : e.key = .str x t → KVal K d e.val → KEnts K ds es → KEnts K ((x, d) :: ds) (e :: es)
theorem kents_find : ∀ {tbl : List (Str × D)} {es : List DictEntry} (z : Str), KEnts K tbl es → match dlk tbl z with
    | none => es.find? (fun e => e.key.isStr z) = none ∧ es.any (·.refKey) = false
    | some d => ∃ e, es.find? (fun e => e.key.isStr z) = some e ∧ KVal K d e.val
  | _, _, z, .nil => ⟨rfl, rfl⟩
  | _, _, z, .cons (x := y) (d := d) (e := e) (t := t) h1 h2 h3 => by
    have ih := kents_find z h3
    have hk : e.key.isStr z = (y == z) := by
      rw [PySem.W.isStr_of, h1]; rfl
    have hr : e.refKey = false := by
      unfold DictEntry.refKey
      rw [h1]
    unfold dlk
    by_cases q : y = z
    · rw [if_pos q]
      exact ⟨e, by rw [List.find?_cons, hk, beq_iff_eq.mpr q], h2⟩
    · rw [if_neg q]
      have q' : (y == z) = false := beq_eq_false_iff_ne.mpr q
      revert ih
      cases dlk _ z with
      | none => exact fun ih => ⟨by rw [List.find?_cons, hk, q']; exact ih.1, by rw [List.any_cons, hr]; exact ih.2⟩
      | some d' => exact fun ⟨e', h4, h5⟩ => ⟨e', by rw [List.find?_cons, hk, q']; exact h4, h5⟩
theorem km_of {tbl : List (Str × D)} {a : Addr} {es : Array DictEntry} {n : Nat} (X : K.In h) (G : h.Ns mainGlobals mg) (g : PySem.W.nsIn K mainGlobals x = some (some (.ref a))) (l : K.lookup a = some ⟨.type "dict", none, .dict es n, #[]⟩) (kl : PySem.W.KeysLit w.params es.toList)
    (lo : (a == sysModules) = false) (q : KEnts K tbl es.toList) : KM ⟨P, w, K, mg, T⟩ x tbl := by
  refine ⟨a, es, n, PySem.W.mg_of X G g, l, kl, lo, fun z => ?_⟩
  have hf := kents_find z q
  have hn : PySem.W.nsIn K a z = match es.toList.find? (fun e => e.key.isStr z) with
      | some e => some (some e.val)
      | none => if es.toList.any (·.refKey) then none else some none := by
    unfold PySem.W.nsIn
    rw [l]
    rfl
  revert hf
  cases dlk tbl z with
  | none =>
    rintro ⟨h1, h2⟩
    exact ⟨none, by rw [hn, h1, h2]; rfl, rfl⟩
  | some d =>
    rintro ⟨e, h1, h2⟩
    obtain ⟨v, h3, h4⟩ := KVal.ok (G := ⟨P, w, K, mg, T⟩) h2
    exact ⟨some e.val, by rw [hn, h1], e.val, v, rfl, h3, h4⟩
end
/-! ### the law -/
/-- what is promised of law: of a script that nobody changes, True -/
def spLaw (K : PySem.W.Frag) : Sp := fun vs H Q _ => ∃ (a : Addr) (ns : List Int), vs = [.ref a] ∧ ns.length ≤ 63 ∧ Sc K H a ns ∧ ∀ H', Q (.bl true) H'
theorem sc_of {K : PySem.W.Frag} {H : Hp} {a : Addr} {ns : List Int} (hO : Only H) (hS : SqL K H a (ns.map V.int)) : Sc K H a ns := by
  rcases hS with (h | h) | h
  · rcases hO a with z | ⟨o, xs, z⟩
    · rw [z] at h; cases h
    · rw [z] at h; cases h
  · exact .inl h
  · exact .inr h
theorem law_imp {P : Program} {w : World} {K : PySem.W.Frag} {mg : Str → Option Value} {base : Heap} {k : Nat} {f : Addr} {fd : FuncData} {F : List D → R} (h : FnOk P w K mg base (L2.CX P w) k f fd ["script"] (sp0 ⟨P, w, K, mg, []⟩ 1 F))
    (hF : ∀ ns : List Int, ns.length ≤ 63 → F [.scr ns] = .ok (.bl true)) : FnOk P w K mg base (L2.CX P w) k f fd ["script"] (spLaw K) := h.imp fun vs H Q E ⟨a, ns, e, hl, hS, hQ⟩ => by
  subst e
  refine ⟨rfl, [], [.scr ns], fun _ z => (by cases z), fun _ z => (by cases z), .cons (.scr hS) .nil, ?_⟩
  rw [hF ns hl]
  intro H' v _ r
  cases r
  exact hQ H'
theorem cx_none {P : Program} {w : World} {H : Hp} {s : Shared} {e : Value} {s' : Shared} (h : L2.CX P w [] H s (fun _ _ _ => False) e s') : False := by
  obtain ⟨_, _, _, _, _, _, _, _, _, _, _, _, h⟩ := h
  exact h
theorem kn_of {P : Program} {w : World} {K : PySem.W.Frag} {mg : Str → Option Value} {base : Heap} {T : List (Addr × Str)} {h : Heap} {j k : Nat} {x : Str} {f : Addr} {fd : FuncData} {ps : List Str} {sp : Sp} (X : K.In h) (G : h.Ns mainGlobals mg) (hF : FnOk P w K mg base (L2.CX P w) j f fd ps sp) (a : PySem.W.nsIn K mainGlobals x = some (some (.ref f))) (kp : PySem.W.keepIn K (.ref f) = true) (b : Binds K fd ps []) (hk : j ≤ k) :
    Kn ⟨P, w, K, mg, T⟩ base k x sp := ⟨f, fd, ps, hF.mono hk, PySem.W.mg_of X G a, kp, b⟩
end Mir

/-! Mir17: a comprehension's list as a cell. -/
namespace Mir
open PySem PySem.Spec PyProof.Rows L2 RZ
def nlcM (it : MI) (tg : Tg) (t : MT) (f : ME) (own : List Nat) : ME := fun ρ S => (it ρ S).bind fun ds S1 =>
  if ds.length ≤ big then match lcL tg t f (wipeE ρ own) ds S1 with
    | .ok ys S2 => .ok (.c S2.length) (S2 ++ [.lst ys])
    | _ => .un
  else .un
section
variable {X : Cx} {T : List (Addr × Str)} {W : WX}
theorem nlc_red {fi : MI} {t : MT} {f : ME} {tgt : Tg} {own : List Nat} (ho : ∀ i ∈ tgt.ix, i ∈ own) {σ : St} {H : Hp} {Q : VK} (h : tE (gOf X T) W (nlcM fi tgt t f own) σ H Q) :
    tLc (tI (gOf X T) W fi) (gT X.K tgt) (tT (gOf X T) WF t) (tE (gOf X T) WF f) own σ H Q := by
  obtain ⟨x, m, ρ, S, p, h⟩ := h
  refine ⟨x, m, ρ, S, p, (Post.bind h).mono fun ds S1 m1 H1 E1 R1 ⟨_, _, h1⟩ J hJ => fun D₀ hD => ?_⟩
  have p1 := p.ext E1 R1
  split at h1
  case isFalse => exact h1.elim
  case isTrue hbig =>
  cases hL : lcL tgt t f (wipeE ρ own) ds S1 with
  | un => rw [hL] at h1; exact h1.elim
  | ex ee S' => rw [hL] at h1; exact h1.elim
  | ok ys Sf =>
    rw [hL] at h1
    refine ⟨fun i k H2 => ∃ m2 S2 acc vacc rest, k = ds.length - i ∧ i ≤ ds.length ∧ Ext (gOf X T) m1 H1 m2 H2 ∧ Rp (gOf X T) (D₀ :: x) m2 H2 (wipeE ρ own) S2 (L2.wipe σ own) ∧ H2 D₀ = some (.lst vacc) ∧
      RVs (gOf X T) (D₀ :: x ++ m2) H2 acc vacc ∧ vacc.length ≤ i ∧ lcL tgt t f (wipeE ρ own) (ds.drop i) S2 = .ok rest Sf ∧ ys = acc ++ rest ∧ D₀ ∉ m2,
      ⟨ds.length, m1, S1, [], [], ys, by simp, Nat.zero_le _, Ext.new hD, ⟨(RE.wipeS own p1.env).keep (Keep.hide hD), R1.keep (Keep.hide hD) (fun b hb => List.mem_cons_of_mem _ (List.mem_append_right _ hb)) (fun a ha => by
          obtain ⟨u, q⟩ := R1.live ha
          rw [upd_ne (ne_of_none q hD)]) (fun b y q => by rw [upd_ne (ne_of_none q hD)]; exact q), fun b hb => ?_, p1.tab.ext fun b u q => by rw [upd_ne (ne_of_none q hD)]; exact q⟩, upd_same, .nil, Nat.zero_le _, by rw [List.drop_zero]; exact hL, rfl, fun z => by
          obtain ⟨u, q⟩ := R1.live z
          rw [hD] at q; cases q⟩, ?_⟩
    · rcases List.mem_cons.mp hb with z | z
      · rw [z]; exact ⟨_, upd_same, fun ps z => by cases z⟩
      · obtain ⟨u, q, qn⟩ := p1.ex b z
        exact ⟨u, by rw [upd_ne (ne_of_none q hD)]; exact q, qn⟩
    rintro i k H2 ⟨m2, S2, acc, vacc, rest, rfl, hi, E2, p2, hd2, r2, hv, hl, hy, nD⟩
    have hY := hJ (D₀ :: x) m2 H2 (fun b hb => by
      rcases List.mem_cons.mp hb with z | z
      · exact .inr (by rw [z]; exact hD)
      · exact .inl z) E2 p2.trk i
    by_cases hlt : i < ds.length
    · obtain ⟨hgo, hyl⟩ := hY.1 ds[i] (List.getElem?_eq_getElem hlt)
      rw [List.drop_eq_getElem_cons hlt] at hl
      simp only [lcL] at hl
      refine .inr ⟨hgo, fun H3 => ∃ m3 S3 acc vacc rest, Ext (gOf X T) m1 H1 m3 H3 ∧ Rp (gOf X T) (D₀ :: x) m3 H3 (wipeE ρ own) S3 (L2.wipe σ own) ∧ H3 D₀ = some (.lst vacc) ∧
        RVs (gOf X T) (D₀ :: x ++ m3) H3 acc vacc ∧ vacc.length ≤ i + 1 ∧ lcL tgt t f (wipeE ρ own) (ds.drop (i + 1)) S3 = .ok rest Sf ∧ ys = acc ++ rest ∧ D₀ ∉ m3,
        fun H3 ⟨m3, S3, acc, vacc, rest, a1, a2, a3, a4, a5, a6, a7, a8⟩ => ⟨ds.length - (i + 1), by omega, m3, S3, acc, vacc, rest, rfl, hlt, a1, a2, a3, a4, a5, a6, a7, a8⟩, fun v H3 yv => ?_⟩
      obtain ⟨E3, k3, r3⟩ := hyl v H3 yv
      have R3 : RS (gOf X T) (D₀ :: x ++ m2) m2 H3 S2 := p2.sto.stay E3 fun a ha => k3 a ha (by obtain ⟨o, q⟩ := p2.sto.live ha; rw [q]; simp)
      have p3 := p2.ext E3 R3
      cases hs : setT tgt ds[i] (wipeE ρ own) with
      | none => rw [hs] at hl; cases hl
      | some ρ' =>
        rw [hs] at hl
        dsimp only at hl
        refine tg_ok r3 p3.env hs ho fun σ' re' hw => ⟨by rw [hw, wipe_idem], ?_⟩
        have q3 : Rp (gOf X T) (D₀ :: x) m2 H3 ρ' S2 σ' := ⟨re', R3, p3.ex, p3.tab⟩
        have nD' : ∀ {m m' : List Addr} {H H' : Hp}, Ext (gOf X T) m H m' H' → D₀ ∉ m → Nt H D₀ → D₀ ∉ m' := fun E n q z => by
          obtain ⟨nw, e1, f1⟩ := E.pre
          rw [e1] at z
          rcases List.mem_append.mp z with z | z
          · exact n z
          · exact f1 _ z q
        have d3 : H3 D₀ = some (.lst vacc) := E3.keep _ _ hd2 nD (fun ps z => by cases z)
        refine ⟨D₀ :: x, m2, ρ', S2, q3, ?_⟩
        cases ht : t ρ' S2 with
        | un => rw [ht] at hl; cases hl
        | ex ee S' => rw [ht] at hl; cases hl
        | ok b S3 =>
          rw [ht] at hl
          intro m4 H4 E4 R4
          have q4 := q3.ext E4 R4
          have d4 : H4 D₀ = some (.lst vacc) := E4.keep _ _ d3 nD (fun ps z => by cases z)
          have n4 := nD' E4 nD ⟨_, d3, fun ps z => by cases z⟩
          cases b with
          | false =>
            refine iteF ⟨m4, S3, acc, vacc, rest, (E2.trans E3).trans E4, ⟨(p3.ext E4 R4).env, R4, (p3.ext E4 R4).ex, (p3.ext E4 R4).tab⟩, d4, r2.keep ((E3.trans E4).kp), by omega, hl, hy, n4⟩
          | true =>
            refine iteT ⟨D₀ :: x, m4, ρ', S3, q4, ?_⟩
            dsimp only at hl
            cases hf : f ρ' S3 with
            | un => rw [hf] at hl; cases hl
            | ex ee S' => rw [hf] at hl; cases hl
            | ok u S4 =>
              rw [hf] at hl
              cases u with
              | c j => cases hl
              | d y =>
                dsimp only at hl
                cases hr : lcL tgt t f (wipeE ρ own) (ds.drop (i + 1)) S4 with
                | un => rw [hr] at hl; cases hl
                | ex ee S' => rw [hr] at hl; cases hl
                | ok rest' S5 =>
                  rw [hr] at hl
                  cases hl
                  intro m5 H5 E5 R5 w rw'
                  have d5 : H5 D₀ = some (.lst vacc) := E5.keep _ _ d4 n4 (fun ps z => by cases z)
                  have n5 := nD' E5 n4 ⟨_, d4, fun ps z => by cases z⟩
                  have E35 := (E3.trans E4).trans E5
                  have p5 := p2.ext E35 R5
                  have kg : Keep (gOf X T) (D₀ :: x ++ m5) H5 (D₀ :: x ++ m5) (upd H5 D₀ (.lst (vacc ++ [w]))) := Keep.grow d5 List.mem_cons_self
                  refine ⟨vacc, d5, Nat.lt_of_le_of_lt hv (Nat.lt_of_lt_of_le hlt (big_ok hbig)), m5, S4, acc ++ [y], vacc ++ [w], rest', (E2.trans E35).grow hD d5, ⟨p5.env.keep kg, R5.keep kg (fun b hb => List.mem_append_right _ hb) (fun a ha => upd_ne fun z => n5 (z ▸ ha)) (fun b y q => by
                      rw [upd_ne (fun z => by rw [z, d5] at q; cases q)]; exact q), fun b hb => ?_, ?_⟩, upd_same, ?_, by simp; omega, hr, by rw [hy]; simp, n5⟩
                  · by_cases z : b = D₀
                    · rw [z]; exact ⟨_, upd_same, fun ps z => by cases z⟩
                    · obtain ⟨o, q, qn⟩ := p5.ex b hb
                      exact ⟨o, by rw [upd_ne z]; exact q, qn⟩
                  · exact ((E2.trans E35).grow hD d5).tab p1.tab
                  · refine (RVs.append (r2.keep E35.kp) (.cons ?_ .nil)).keep kg
                    cases rw' with
                    | d r => exact r
    · have e : i = ds.length := by omega
      rw [e, List.drop_length] at hl
      cases hl
      rw [List.append_nil] at hy
      subst hy
      refine .inl ⟨hY.2 (by omega), ?_⟩
      have ks : Keep (gOf X T) (D₀ :: x ++ m2) H2 (x ++ (m2 ++ [D₀])) H2 := keep_sub fun a ha => by
        rcases List.mem_append.mp ha with z | z
        · exact List.mem_append_left _ (List.mem_cons_of_mem _ z)
        · rcases List.mem_append.mp z with z | z
          · exact List.mem_append_right _ z
          · have : a = D₀ := by simpa using z
            rw [this]; exact List.mem_append_left _ List.mem_cons_self
      have E3 : Ext (gOf X T) m1 H1 (m2 ++ [D₀]) H2 := by
        refine ⟨E2.keep, E2.tups, E2.frzs, E2.owns, E2.live, ?_, E2.tab⟩
        obtain ⟨nw, e1, f1⟩ := E2.pre
        refine ⟨nw ++ [D₀], by rw [e1, List.append_assoc], fun b hb => ?_⟩
        rcases List.mem_append.mp hb with z | z
        · exact f1 b z
        · have : b = D₀ := by simpa using z
          rw [this]; exact fun ⟨u, q, _⟩ => by rw [hD] at q; cases q
      have R3 : RS (gOf X T) (x ++ (m2 ++ [D₀])) (m2 ++ [D₀]) H2 (Sf ++ [.lst ys]) := by
        have q := p2.sto.keep ks (fun b hb => List.mem_append_right _ (List.mem_append_left _ hb)) (fun _ _ => rfl) fun _ _ q => q
        refine ⟨by simp [q.len], List.nodup_append.mpr ⟨q.nd, by simp, fun a ha b hb z => ?_⟩, fun b hb => List.mem_append_right _ hb, fun i a c h1 h2 => ?_⟩
        · have : b = D₀ := by simpa using hb
          rw [z, this] at ha
          exact nD ha
        · by_cases hi : i < m2.length
          · rw [List.getElem?_append_left hi] at h1
            rw [List.getElem?_append_left (by rw [← q.len]; exact hi)] at h2
            exact q.at' i a c h1 h2
          · have e1 : i = m2.length := by
              have := (List.getElem?_eq_some_iff.mp h1).1
              simp at this
              omega
            subst e1
            rw [List.getElem?_append_right (Nat.le_refl _), Nat.sub_self] at h1
            rw [q.len, List.getElem?_append_right (Nat.le_refl _), Nat.sub_self] at h2
            have e2 : D₀ = a := Option.some.inj h1
            have e3 : Cell.lst ys = c := Option.some.inj h2
            subst e2 e3
            exact ⟨_, hd2, .lst (r2.keep ks)⟩
      exact h1 (m2 ++ [D₀]) H2 E3 R3 _ (.c (by rw [← p2.sto.len]; simp))
variable {elt tg iter : Expr} {ifs : List Expr} {scope : Scope} {own : List (Str × Nat)} {pos spos : Pos} {fi : MI} {t : MT} {f : ME}
theorem e_nlc (tgt : Tg) (own : List (Str × Nat)) (hc : X.calm = true) (hN : X.N.Nodup) (hi : PI X tg iter (tI (gOf X T) W fi)) (ok : BlkOk X.N X.env.scope scope own)
    (hg : ∀ (s : Shared) (H : Hp) (C : Addr) (cl : List (Str × Addr)) (fp : List Addr), PG (X.blk s H scope (compEnvC scope cl C X.env) fp) tg (gT X.K tgt))
    (ht : ∀ (s : Shared) (H : Hp) (C : Addr) (cl : List (Str × Addr)) (fp : List Addr), PTs (X.blk s H scope (compEnvC scope cl C X.env) fp) ifs (tT (gOf (X.blk s H scope (compEnvC scope cl C X.env) fp) T) WF t))
    (he : ∀ (s : Shared) (H : Hp) (C : Addr) (cl : List (Str × Addr)) (fp : List Addr), Takes (X.blk s H scope (compEnvC scope cl C X.env) fp) WF → PE (X.blk s H scope (compEnvC scope cl C X.env) fp) elt (tE (gOf (X.blk s H scope (compEnvC scope cl C X.env) fp) T) WF f))
    (ho : ∀ i ∈ tgt.ix, i ∈ own.map (·.2)) (hs : ∀ x, foldedSetIterable iter X.env x = pure x := by intro _; rfl) : PE X (.ListComp elt [⟨tg, iter, ifs, 0⟩] scope pos) (tE (gOf X T) W (nlcM fi tgt t f (own.map (·.2)))) :=
  pe_mono (pe_lc hc hN hi ok hg ht (fun s H C cl fp => he s H C cl fp takes0) hs) fun σ H Q h => nlc_red ho h
theorem s_nlc (i : Nat) (tgt : Tg) (own : List (Str × Nat)) {y : Str} {py : Pos} (hc : X.calm = true) (hN : X.N.Nodup) (hi : PI X tg iter (tI (gOf X T) W fi)) (ok : BlkOk X.N X.env.scope scope own)
    (hg : ∀ (s : Shared) (H : Hp) (C : Addr) (cl : List (Str × Addr)) (fp : List Addr), PG (X.blk s H scope (compEnvC scope cl C X.env) fp) tg (gT X.K tgt))
    (ht : ∀ (s : Shared) (H : Hp) (C : Addr) (cl : List (Str × Addr)) (fp : List Addr), PTs (X.blk s H scope (compEnvC scope cl C X.env) fp) ifs (tT (gOf (X.blk s H scope (compEnvC scope cl C X.env) fp) T) WF t))
    (he : ∀ (s : Shared) (H : Hp) (C : Addr) (cl : List (Str × Addr)) (fp : List Addr), Takes (X.blk s H scope (compEnvC scope cl C X.env) fp) WF → PE (X.blk s H scope (compEnvC scope cl C X.env) fp) elt (tE (gOf (X.blk s H scope (compEnvC scope cl C X.env) fp) T) WF f))
    (ho : ∀ i ∈ tgt.ix, i ∈ own.map (·.2)) (hsw : swapsWith (.ListComp elt [⟨tg, iter, ifs, 0⟩] scope pos) (some (.Name y py)) spos.line X.env = pure true) (hy : X.N[i]? = some y := by rfl) (hyl : X.env.scope.names.lookup y = some .local := by rfl) (hs : ∀ x, foldedSetIterable iter X.env x = pure x := by intro _; rfl) :
    PS X (.Assign [.Name y py] (.ListComp elt [⟨tg, iter, ifs, 0⟩] scope pos) spos) (tS (gOf X T) W (asgM (nlcM fi tgt t f (own.map (·.2))) (namG i))) :=
  ps_mono (ps_setLc hc hN hy hyl hsw hi ok hg ht (fun s H C cl fp => he s H C cl fp takes0) hs) fun Dn σ H h => by
    refine nlc_red (W := W) (f := f) (t := t) ho ?_
    obtain ⟨x, m, ρ, S, p, h⟩ := h
    refine ⟨x, m, ρ, S, p, (Post.toS h p).mono fun u S1 m1 H1 E1 R1 ⟨_, _, h1⟩ v rv => ?_⟩
    have p1 := p.ext E1 R1
    exact h1 m1 H1 _ Ext.refl ⟨p1.env.set rv i, p1.sto, p1.ex, p1.tab⟩
end
end Mir

/-! Pl: plain laws of the mirrors' words: walks, comprehensions, equality. -/
namespace Mir
open PySem PySem.Spec PyProof.Rows L2
theorem lcL_pure {tg : Tg} {t : MT} {f : ME} {ρ0 : Env} {S : Sto} (g : D → D) : ∀ ds : List D, (∀ d ∈ ds, ∃ ρ, setT tg d ρ0 = some ρ ∧ t ρ S = .ok true S ∧ f ρ S = .ok (.d (g d)) S) → lcL tg t f ρ0 ds S = .ok (ds.map g) S
  | [], _ => rfl
  | d :: ds, h => by
    obtain ⟨ρ, h1, h2, h3⟩ := h d List.mem_cons_self
    have ih := lcL_pure g ds fun x hx => h x (List.mem_cons_of_mem _ hx)
    simp only [lcL, h1, h2, h3, ih, List.map_cons]
/-- what comes in, what goes out, row by row -/
theorem lcL_rows {tg : Tg} {t : MT} {f : ME} {ρ0 : Env} {S : Sto} : ∀ {ps : List (D × D)} {ds ys : List D}, ds = ps.map (·.1) → ys = ps.map (·.2) → (∀ p ∈ ps, ∃ ρ, setT tg p.1 ρ0 = some ρ ∧ t ρ S = .ok true S ∧ f ρ S = .ok (.d p.2) S) → lcL tg t f ρ0 ds S = .ok ys S
  | [], _, _, e1, e2, _ => by subst e1 e2; rfl
  | p :: ps, _, _, e1, e2, h => by
    subst e1 e2
    obtain ⟨ρ, h1, h2, h3⟩ := h p List.mem_cons_self
    have ih := lcL_rows (ps := ps) rfl rfl fun x hx => h x (List.mem_cons_of_mem _ hx)
    simp only [List.map_cons, lcL, h1, h2, h3, ih]
/-- a comprehension with a test, pure -/
theorem lcL_filter {tg : Tg} {t : MT} {f : ME} {ρ0 : Env} {S : Sto} (p : D → Bool) (g : D → D) : ∀ ds : List D, (∀ d ∈ ds, ∃ ρ, setT tg d ρ0 = some ρ ∧ t ρ S = .ok (p d) S ∧ (p d = true → f ρ S = .ok (.d (g d)) S)) → lcL tg t f ρ0 ds S = .ok ((ds.filter p).map g) S
  | [], _ => rfl
  | d :: ds, h => by
    obtain ⟨ρ, h1, h2, h3⟩ := h d List.mem_cons_self
    have ih := lcL_filter p g ds fun x hx => h x (List.mem_cons_of_mem _ hx)
    cases hp : p d with
    | true => simp only [lcL, h1, h2, hp, h3 hp, ih, List.filter_cons_of_pos, List.map_cons]
    | false => simp only [lcL, h1, h2, hp, ih, Bool.false_eq_true, not_false_eq_true, List.filter_cons_of_neg]
theorem lcL_inv {tg : Tg} {t : MT} {f : ME} {ρ0 : Env} (I : Sto → Prop) (Pr : D → Prop) : ∀ (ds : List D) (S : Sto), (∀ d ∈ ds, ∀ S, I S → ∃ ρ S1 y S2, setT tg d ρ0 = some ρ ∧ t ρ S = .ok true S1 ∧ f ρ S1 = .ok (.d y) S2 ∧ I S2 ∧ Pr y) → I S →
    ∃ ys S', lcL tg t f ρ0 ds S = .ok ys S' ∧ I S' ∧ ys.length = ds.length ∧ ∀ y ∈ ys, Pr y
  | [], S, _, hI => ⟨[], S, rfl, hI, rfl, fun _ h => by cases h⟩
  | d :: ds, S, h, hI => by
    obtain ⟨ρ, S1, y, S2, h1, h2, h3, h4, h5⟩ := h d List.mem_cons_self S hI
    obtain ⟨ys, S', h6, h7, h8, h9⟩ := lcL_inv I Pr ds S2 (fun x hx => h x (List.mem_cons_of_mem _ hx)) h4
    exact ⟨y :: ys, S', by simp only [lcL, h1, h2, h3, h6], h7, by simp [h8], fun z hz => by
      rcases List.mem_cons.mp hz with q | q
      · rw [q]; exact h5
      · exact h9 z q⟩
theorem forL_inv {g : MG} {f : MS} (I : Env → Sto → Prop) : ∀ (ds : List D) (ρ : Env) (S : Sto), (∀ d ∈ ds, ∀ ρ S, I ρ S → ∃ q ρ' S', g (.d d) ρ S = some q ∧ (f q.1 q.2 = .nx ρ' S' ∨ f q.1 q.2 = .ct ρ' S') ∧ I ρ' S') → I ρ S → ∃ ρ' S', forL g f ds ρ S = .nx ρ' S' ∧ I ρ' S'
  | [], ρ, S, _, hI => ⟨ρ, S, rfl, hI⟩
  | d :: ds, ρ, S, h, hI => by
    obtain ⟨q, ρ', S', h1, h2, h3⟩ := h d List.mem_cons_self ρ S hI
    obtain ⟨ρ2, S2, h4, h5⟩ := forL_inv I ds ρ' S' (fun x hx => h x (List.mem_cons_of_mem _ hx)) h3
    refine ⟨ρ2, S2, ?_, h5⟩
    rcases h2 with h2 | h2 <;> simp only [forL, h1, h2, h4]
/-- a loop that grows what it has, turn by turn -/
theorem forL_fold {α : Type} {g : MG} {f : MS} (I : α → Env → Sto → Prop) (step : α → D → α) : ∀ (ds : List D) (a : α) (ρ : Env) (S : Sto), (∀ d ∈ ds, ∀ a ρ S, I a ρ S → ∃ q ρ' S', g (.d d) ρ S = some q ∧ (f q.1 q.2 = .nx ρ' S' ∨ f q.1 q.2 = .ct ρ' S') ∧ I (step a d) ρ' S') → I a ρ S → ∃ ρ' S', forL g f ds ρ S = .nx ρ' S' ∧ I (ds.foldl step a) ρ' S'
  | [], a, ρ, S, _, hI => ⟨ρ, S, rfl, hI⟩
  | d :: ds, a, ρ, S, h, hI => by
    obtain ⟨q, ρ', S', h1, h2, h3⟩ := h d List.mem_cons_self a ρ S hI
    obtain ⟨ρ2, S2, h4, h5⟩ := forL_fold I step ds (step a d) ρ' S' (fun x hx => h x (List.mem_cons_of_mem _ hx)) h3
    refine ⟨ρ2, S2, ?_, h5⟩
    rcases h2 with h2 | h2 <;> simp only [forL, h1, h2, h4]
/-! ### equality -/
mutual
/-- data without truths, dicts, not deeper than n -/
def cl : Nat → D → Bool
  | _, .non => true
  | _, .int _ => true
  | _, .str x => PyData.strOk x
  | n + 1, .tup xs => cls n xs
  | n + 1, .lst xs => cls n xs
  | _, _ => false
def cls : Nat → List D → Bool
  | _, [] => true
  | n, x :: xs => cl n x && cls n xs
end
mutual
theorem cl_can : ∀ (n : Nat) (d : D), cl n d = true → PyData.canLay0 d.P = true ∧ d.P.depth ≤ n
  | n, .non, _ => ⟨rfl, Nat.zero_le _⟩
  | n, .int _, _ => ⟨rfl, Nat.zero_le _⟩
  | n, .str x, h => ⟨by cases n <;> simpa [cl, D.P, PyData.canLay0] using h, Nat.zero_le _⟩
  | 0, .tup xs, h => by simp [cl] at h
  | 0, .lst xs, h => by simp [cl] at h
  | n + 1, .tup xs, h => by
    have := cls_can n xs (by simpa [cl] using h)
    refine ⟨this.1, ?_⟩
    exact Nat.succ_le_succ this.2
  | n + 1, .lst xs, h => by
    have := cls_can n xs (by simpa [cl] using h)
    refine ⟨this.1, ?_⟩
    exact Nat.succ_le_succ this.2
  | 0, .bl _, h => by simp [cl] at h
  | n + 1, .bl _, h => by simp [cl] at h
  | 0, .dic _ _ _, h => by simp [cl] at h
  | n + 1, .dic _ _ _, h => by simp [cl] at h
  | 0, .scr _, h => by simp [cl] at h
  | n + 1, .scr _, h => by simp [cl] at h
theorem cls_can : ∀ (n : Nat) (ds : List D), cls n ds = true → PyData.canLayAll0 (Ps ds) = true ∧ PyData.depthAll (Ps ds) ≤ n
  | n, [], _ => ⟨rfl, Nat.zero_le _⟩
  | n, d :: ds, h => by
    have h' := Bool.and_eq_true_iff.mp (show (cl n d && cls n ds) = true from h)
    have a := cl_can n d h'.1
    have b := cls_can n ds h'.2
    refine ⟨?_, ?_⟩
    · simp [Ps, PyData.canLayAll0, a.1, b.1]
    · exact Nat.max_le.mpr ⟨a.2, b.2⟩
end
theorem cl_sh {n : Nat} {d : D} (h : cl n d = true) (hn : n ≤ 64) : sh d = true := by
  have := cl_can n d h
  unfold sh SeqAt.shaped
  rw [this.1, decide_eq_true (Nat.le_trans this.2 hn)]
  rfl
mutual
theorem cl_eq : ∀ (n m : Nat) (x y : D), cl n x = true → cl m y = true → (eqD x y = true ↔ x = y)
  | n, m, .non, y, _, hy => by cases y <;> simp_all [eqD, D.P, PyData.eqv, cl]
  | n, m, .int i, y, _, hy => by cases y <;> simp_all [eqD, D.P, PyData.eqv, cl]
  | n, m, .str i, y, _, hy => by cases y <;> simp_all [eqD, D.P, PyData.eqv, cl]
  | 0, _, .tup xs, _, h, _ => by simp [cl] at h
  | 0, _, .lst xs, _, h, _ => by simp [cl] at h
  | n + 1, m, .tup xs, y, h, hy => by
    cases y with
    | tup ys =>
      cases m with
      | zero => simp [cl] at hy
      | succ m =>
        have := cls_eq n m xs ys (by simpa [cl] using h) (by simpa [cl] using hy)
        simpa [eqD, D.P, PyData.eqv] using this
    | _ => simp_all [eqD, D.P, PyData.eqv, cl]
  | n + 1, m, .lst xs, y, h, hy => by
    cases y with
    | lst ys =>
      cases m with
      | zero => simp [cl] at hy
      | succ m =>
        have := cls_eq n m xs ys (by simpa [cl] using h) (by simpa [cl] using hy)
        simpa [eqD, D.P, PyData.eqv] using this
    | _ => simp_all [eqD, D.P, PyData.eqv, cl]
  | 0, _, .bl _, _, h, _ => by simp [cl] at h
  | n + 1, _, .bl _, _, h, _ => by simp [cl] at h
  | 0, _, .dic _ _ _, _, h, _ => by simp [cl] at h
  | n + 1, _, .dic _ _ _, _, h, _ => by simp [cl] at h
  | 0, _, .scr _, _, h, _ => by simp [cl] at h
  | n + 1, _, .scr _, _, h, _ => by simp [cl] at h
theorem cls_eq : ∀ (n m : Nat) (xs ys : List D), cls n xs = true → cls m ys = true → (PyData.eqvAll (Ps xs) (Ps ys) = true ↔ xs = ys)
  | _, _, [], [], _, _ => by simp [Ps, PyData.eqvAll]
  | _, _, [], y :: ys, _, _ => by simp [Ps, PyData.eqvAll]
  | _, _, x :: xs, [], _, _ => by simp [Ps, PyData.eqvAll]
  | n, m, x :: xs, y :: ys, h, h' => by
    have a := Bool.and_eq_true_iff.mp (show (cl n x && cls n xs) = true from h)
    have b := Bool.and_eq_true_iff.mp (show (cl m y && cls m ys) = true from h')
    have e1 := cl_eq n m x y a.1 b.1
    have e2 := cls_eq n m xs ys a.2 b.2
    have e1' : PyData.eqv x.P y.P = true ↔ x = y := e1
    simp [Ps, PyData.eqvAll, e1', e2]
end
theorem eqG_cl {n m : Nat} {x y : D} (hx : cl n x = true) (hy : cl m y = true) (hn : n ≤ 64 := by decide) (hm : m ≤ 64 := by decide) : eqG x y = some (.bl (eqD x y)) := by
  unfold eqG
  rw [cl_sh hx hn, cl_sh hy hm]
  rfl
theorem neG_cl {n m : Nat} {x y : D} (hx : cl n x = true) (hy : cl m y = true) (hn : n ≤ 64 := by decide) (hm : m ≤ 64 := by decide) : neG x y = some (.bl (!eqD x y)) := by
  unfold neG
  rw [cl_sh hx hn, cl_sh hy hm]
  rfl
theorem eqG_refl {n : Nat} {x : D} (hx : cl n x = true) (hn : n ≤ 64 := by decide) : eqG x x = some (.bl true) := by
  rw [eqG_cl hx hx hn hn, (cl_eq n n x x hx hx).mpr rfl]
theorem neG_refl {n : Nat} {x : D} (hx : cl n x = true) (hn : n ≤ 64 := by decide) : neG x x = some (.bl false) := by
  rw [neG_cl hx hx hn hn, (cl_eq n n x x hx hx).mpr rfl]
  rfl
theorem eqG_int (i j : Int) : eqG (.int i) (.int j) = some (.bl (i == j)) := rfl
theorem neG_int (i j : Int) : neG (.int i) (.int j) = some (.bl (!(i == j))) := rfl
theorem cls_ints {n : Nat} : ∀ b : List Int, cls n (b.map D.int) = true
  | [] => by simp [cls]
  | i :: b => by
    have := cls_ints (n := n) b
    cases n <;> simpa [cls, cl] using this
theorem cl_ints {n : Nat} (b : List Int) : cl (n + 1) (.tup (b.map D.int)) = true := cls_ints b
theorem cl_nil {n : Nat} : cl (n + 1) (.tup []) = true := rfl
theorem neG_nil {n : Nat} {xs : List D} (h : cl n (.tup xs) = true) (hn : n ≤ 64 := by decide) : neG (.tup xs) (.tup []) = some (.bl (!xs.isEmpty)) := by
  rw [neG_cl (n := n) (m := 1) h cl_nil hn (by decide)]
  cases xs with
  | nil => rfl
  | cons _ _ => rfl
/-! ### answers, looked at by evaluation -/
def isOk (r : R) (d : D) : Bool := match r with
  | .ok x => cl 9 x && cl 9 d && eqD x d
  | _ => false
theorem isOk_eq {r : R} {d : D} (h : isOk r d = true) : r = .ok d := by
  unfold isOk at h
  split at h
  · simp only [Bool.and_eq_true] at h
    rw [(cl_eq 9 9 _ _ h.1.1 h.1.2).mp h.2]
  · cases h
def isBl (r : R) (b : Bool) : Bool := match r with
  | .ok (.bl c) => c == b
  | _ => false
theorem isBl_eq {r : R} {b : Bool} (h : isBl r b = true) : r = .ok (.bl b) := by
  unfold isBl at h
  split at h
  · rw [beq_iff_eq.mp h]
  · cases h
end Mir

namespace Q
open PySem PySem.Spec PyProof.Rows L2 Mir
def topS (i : Nat) : Stmt := PySem.Challenge.pw_stoneroads_k13_whole_texts_there_and_bac.main.body.getD i (.Pass ⟨0, 0, 0, 0⟩)
theorem blt_all : bootBuiltins "all" = some (.builtin "all") := by decide +kernel
theorem blt_bool : bootBuiltins "bool" = some (.type "bool") := by decide +kernel
theorem blt_int : bootBuiltins "int" = some (.type "int") := by decide +kernel
theorem blt_isinstance : bootBuiltins "isinstance" = some (.builtin "isinstance") := by decide +kernel
theorem blt_len : bootBuiltins "len" = some (.builtin "len") := by decide +kernel
theorem blt_list : bootBuiltins "list" = some (.type "list") := by decide +kernel
theorem blt_range : bootBuiltins "range" = some (.type "range") := by decide +kernel
theorem blt_str : bootBuiltins "str" = some (.type "str") := by decide +kernel
theorem blt_tuple : bootBuiltins "tuple" = some (.type "tuple") := by decide +kernel
theorem blt_zip : bootBuiltins "zip" = some (.type "zip") := by decide +kernel
def K_MANY : D := (.int 200)
def K_MOST : D := (.int 1000000000000000000000000000000)
def K_WAYS : D := (.tup [(.str "left"), (.str "right"), (.str "stay")])
def K_WORDS : D := (.tup [(.str "begin"), (.str "round"), (.str "end")])
def T_LETTERS : List (Str × D) := [("l", (.str "left")), ("r", (.str "right")), ("s", (.str "stay"))]
/-- what the top has left: the built-in names, the constants, the classes -/
structure Bn (P : Program) (w : World) (K : PySem.W.Frag) (mg : Str → Option Value) (T : List (Addr × Str)) : Prop where
  all : mg "all" = none
  bool : mg "bool" = none
  int : mg "int" = none
  isinstance : mg "isinstance" = none
  len : mg "len" = none
  list : mg "list" = none
  range : mg "range" = none
  str : mg "str" = none
  tuple : mg "tuple" = none
  zip : mg "zip" = none
  k_MANY : KD ⟨P, w, K, mg, T⟩ "MANY" K_MANY
  k_MOST : KD ⟨P, w, K, mg, T⟩ "MOST" K_MOST
  k_WAYS : KD ⟨P, w, K, mg, T⟩ "WAYS" K_WAYS
  k_WORDS : KD ⟨P, w, K, mg, T⟩ "WORDS" K_WORDS
  m_LETTERS : KM ⟨P, w, K, mg, T⟩ "LETTERS" T_LETTERS
section
variable {P : Program} {w : World} {K : PySem.W.Frag} {mg : Str → Option Value} {base : Heap} {T : List (Addr × Str)}
abbrev s_is_number : Stmt := topS 9
abbrev N_is_number : List Str := ["value", "low", "high"]
abbrev p_is_number : List Str := ["value", "low", "high"]
theorem c_is_number : FnScope N_is_number p_is_number (defScope s_is_number) := ⟨rfl, rfl, rfl, by decide +kernel, rfl, by decide +kernel, by decide +kernel⟩
def m_is_number : MS :=
  (retM (andM (isM .int (varM 0)) (andM (notM (isM .bool (varM 0))) (chM leG leG (varM 1) (varM 0) (varM 2)))))
def F_is_number : List D → R := run0 3 m_is_number
theorem d_is_number {f : Addr} {k : Nat} (B : Bn P w K mg T) : Der P w K mg base T N_is_number "is_number" s_is_number f k m_is_number := fun cdv A outer s H E hr hu tk po =>
  have nd : N_is_number.Nodup := c_is_number.nd; have hu4 := Nat.lt_of_succ_lt hu
  (s_one (s_ret (e_and (e_isi .int B.isinstance B.int blt_int (e_var 0)) (e_and (e_not (e_isi .bool B.isinstance B.bool blt_bool (e_var 0))) (e_one (e_ch o_le o_le (e_var 1) (e_var 0) (e_var 2)))))))
theorem ok_is_number {f : Addr} {fd : FuncData} {k : Nat} (B : Bn P w K mg T) (Fu : Fun K "is_number" "is_number" s_is_number f fd) : FnOk P w K mg base (L2.CX P w) (k + 1) f fd p_is_number (sp0 ⟨P, w, K, mg, T⟩ 3 F_is_number) :=
  ok0 Fu c_is_number (d_is_number B) rfl (fun _ _ => rfl)
abbrev s_are_ways : Stmt := topS 10
abbrev N_are_ways : List Str := ["value", "one", "other"]
abbrev p_are_ways : List Str := ["value"]
theorem c_are_ways : FnScope N_are_ways p_are_ways (defScope s_are_ways) := ⟨rfl, rfl, rfl, by decide +kernel, rfl, by decide +kernel, by decide +kernel⟩
def m_are_ways : MS :=
  (seqM (ifM (orT (notT (tstM (isM .tuple (varM 0)))) (notT (tstM (biM allB [(lcM (seqI (varM 0)) (.one 1) yesM (andM (isM .str (varM 1)) (op2M inG (varM 1) (conM K_WAYS))) [1])])))) (retM (conM (.bl false))) nxtM)
    (retM (biM allB [(lcM (zpBI (varM 0) (slM (varM 0) (someP (conM (.int 1))) noP)) (.many [1, 2]) yesM (op2M ltG (varM 1) (varM 2)) [1, 2])])))
def F_are_ways : List D → R := run0 3 m_are_ways
theorem d_are_ways {f : Addr} {k : Nat} (B : Bn P w K mg T) : Der P w K mg base T N_are_ways "are_ways" s_are_ways f k m_are_ways := fun cdv A outer s H E hr hu tk po =>
  have nd : N_are_ways.Nodup := c_are_ways.nd; have hu4 := Nat.lt_of_succ_lt hu
  (s_cons (s_if ((w_or (t_not (t_val (e_isi .tuple B.isinstance B.tuple blt_tuple (e_var 0)))) (w_or1 (t_not (t_val (e_bi (c_all rfl) B.all blt_all (a_cons (e_lc (.one 1) [("one", 1)] rfl nd (i_seq (e_var 0)) (blkOk_by (N := N_are_ways) (sc := defScope s_are_ways) (by decide +kernel)) (fun _ _ _ _ _ => (pg_name (i := 1) nd rfl (Or.inl rfl))) (fun _ _ _ _ _ => ts_nil) (fun _ _ _ _ _ tk => (e_and (e_isi .str B.isinstance B.str blt_str (e_var 1)) (e_one (e_cmp (o_in hu) (e_var 1) (e_glob B.k_WAYS))))) (by decide)) a_nil))))))).pt (s_one (s_ret e_bl)) s_nil)
    (s_one (s_ret (e_bi (c_all rfl) B.all blt_all (a_cons (e_lc (.many [1, 2]) [("one", 1), ("other", 2)] rfl nd (i_zip2 B.zip (a_cons (e_var 0) (a_cons (e_sl (e_var 0) (p_some e_int) p_none) a_nil))) (blkOk_by (N := N_are_ways) (sc := defScope s_are_ways) (by decide +kernel)) (fun _ _ _ _ _ => (pg_tup rfl (gns_cons (pg_name (i := 1) nd rfl (Or.inl rfl)) (gns_cons (pg_name (i := 2) nd rfl (Or.inl rfl)) gns_nil)))) (fun _ _ _ _ _ => ts_nil) (fun _ _ _ _ _ tk => (e_cmp o_lt (e_var 1) (e_var 2))) (by decide)) a_nil)))))
theorem ok_are_ways {f : Addr} {fd : FuncData} {k : Nat} (B : Bn P w K mg T) (Fu : Fun K "are_ways" "are_ways" s_are_ways f fd) : FnOk P w K mg base (L2.CX P w) (k + 1) f fd p_are_ways (sp0 ⟨P, w, K, mg, T⟩ 1 F_are_ways) :=
  ok0 Fu c_are_ways (d_are_ways B) rfl (fun _ _ => rfl)
abbrev s_is_kind : Stmt := topS 11
abbrev N_is_kind : List Str := ["value", "one"]
abbrev p_is_kind : List Str := ["value"]
theorem c_is_kind : FnScope N_is_kind p_is_kind (defScope s_is_kind) := ⟨rfl, rfl, rfl, by decide +kernel, rfl, by decide +kernel, by decide +kernel⟩
def m_is_kind : MS :=
  (retM (andM (isM .tuple (varM 0)) (andM (op2M eqG (biM lenG [(varM 0)]) (conM (.int 2))) (biM allB [(lcM (seqI (varM 0)) (.one 1) yesM (callM F_are_ways [(varM 1)]) [1])]))))
def F_is_kind : List D → R := run0 2 m_is_kind
theorem d_is_kind {f : Addr} {k : Nat} (B : Bn P w K mg T) (h_are_ways : Kn ⟨P, w, K, mg, T⟩ base k "are_ways" (sp0 ⟨P, w, K, mg, T⟩ 1 F_are_ways)) : Der P w K mg base T N_is_kind "is_kind" s_is_kind f k m_is_kind := fun cdv A outer s H E hr hu tk po =>
  have nd : N_is_kind.Nodup := c_is_kind.nd; have hu4 := Nat.lt_of_succ_lt hu
  (s_one (s_ret (e_and (e_isi .tuple B.isinstance B.tuple blt_tuple (e_var 0)) (e_and (e_cmp (o_eq hu4) (e_bi c_len B.len blt_len (a_cons (e_var 0) a_nil)) e_int) (e_one (e_bi (c_all rfl) B.all blt_all (a_cons (e_lc (.one 1) [("one", 1)] rfl nd (i_seq (e_var 0)) (blkOk_by (N := N_is_kind) (sc := defScope s_is_kind) (by decide +kernel)) (fun _ _ _ _ _ => (pg_name (i := 1) nd rfl (Or.inl rfl))) (fun _ _ _ _ _ => ts_nil) (fun _ _ _ _ _ tk => (e_call h_are_ways hr tk rfl (a_cons (e_var 1) a_nil))) (by decide)) a_nil)))))))
theorem ok_is_kind {f : Addr} {fd : FuncData} {k : Nat} (B : Bn P w K mg T) (h_are_ways : Kn ⟨P, w, K, mg, T⟩ base k "are_ways" (sp0 ⟨P, w, K, mg, T⟩ 1 F_are_ways)) (Fu : Fun K "is_kind" "is_kind" s_is_kind f fd) : FnOk P w K mg base (L2.CX P w) (k + 1) f fd p_is_kind (sp0 ⟨P, w, K, mg, T⟩ 1 F_is_kind) :=
  ok0 Fu c_is_kind (d_is_kind B h_are_ways) rfl (fun _ _ => rfl)
abbrev s_are_kinds : Stmt := topS 12
abbrev N_are_kinds : List Str := ["value", "one"]
abbrev p_are_kinds : List Str := ["value"]
theorem c_are_kinds : FnScope N_are_kinds p_are_kinds (defScope s_are_kinds) := ⟨rfl, rfl, rfl, by decide +kernel, rfl, by decide +kernel, by decide +kernel⟩
def m_are_kinds : MS :=
  (retM (andM (isM .tuple (varM 0)) (andM (chM leG leG (conM (.int 1)) (biM lenG [(varM 0)]) (conM (.int 4))) (biM allB [(lcM (seqI (varM 0)) (.one 1) yesM (callM F_is_kind [(varM 1)]) [1])]))))
def F_are_kinds : List D → R := run0 2 m_are_kinds
theorem d_are_kinds {f : Addr} {k : Nat} (B : Bn P w K mg T) (h_is_kind : Kn ⟨P, w, K, mg, T⟩ base k "is_kind" (sp0 ⟨P, w, K, mg, T⟩ 1 F_is_kind)) : Der P w K mg base T N_are_kinds "are_kinds" s_are_kinds f k m_are_kinds := fun cdv A outer s H E hr hu tk po =>
  have nd : N_are_kinds.Nodup := c_are_kinds.nd; have hu4 := Nat.lt_of_succ_lt hu
  (s_one (s_ret (e_and (e_isi .tuple B.isinstance B.tuple blt_tuple (e_var 0)) (e_and (e_ch o_le o_le e_int (e_bi c_len B.len blt_len (a_cons (e_var 0) a_nil)) e_int) (e_one (e_bi (c_all rfl) B.all blt_all (a_cons (e_lc (.one 1) [("one", 1)] rfl nd (i_seq (e_var 0)) (blkOk_by (N := N_are_kinds) (sc := defScope s_are_kinds) (by decide +kernel)) (fun _ _ _ _ _ => (pg_name (i := 1) nd rfl (Or.inl rfl))) (fun _ _ _ _ _ => ts_nil) (fun _ _ _ _ _ tk => (e_call h_is_kind hr tk rfl (a_cons (e_var 1) a_nil))) (by decide)) a_nil)))))))
theorem ok_are_kinds {f : Addr} {fd : FuncData} {k : Nat} (B : Bn P w K mg T) (h_is_kind : Kn ⟨P, w, K, mg, T⟩ base k "is_kind" (sp0 ⟨P, w, K, mg, T⟩ 1 F_is_kind)) (Fu : Fun K "are_kinds" "are_kinds" s_are_kinds f fd) : FnOk P w K mg base (L2.CX P w) (k + 1) f fd p_are_kinds (sp0 ⟨P, w, K, mg, T⟩ 1 F_are_kinds) :=
  ok0 Fu c_are_kinds (d_are_kinds B h_is_kind) rfl (fun _ _ => rfl)
abbrev s_is_stretch_of : Stmt := topS 13
abbrev N_is_stretch_of : List Str := ["kinds", "value", "most", "one"]
abbrev p_is_stretch_of : List Str := ["kinds", "value", "most"]
theorem c_is_stretch_of : FnScope N_is_stretch_of p_is_stretch_of (defScope s_is_stretch_of) := ⟨rfl, rfl, rfl, by decide +kernel, rfl, by decide +kernel, by decide +kernel⟩
def m_is_stretch_of : MS :=
  (seqM (ifM (orT (notT (tstM (isM .tuple (varM 1)))) (tstM (op2M gtG (biM lenG [(varM 1)]) (varM 2)))) (retM (conM (.bl false))) nxtM)
    (retM (biM allB [(lcM (seqI (varM 1)) (.one 3) yesM (callM F_is_number [(varM 3), (conM (.int 0)), (op2M subG (biM lenG [(varM 0)]) (conM (.int 1)))]) [3])])))
def F_is_stretch_of : List D → R := run0 4 m_is_stretch_of
theorem d_is_stretch_of {f : Addr} {k : Nat} (B : Bn P w K mg T) (h_is_number : Kn ⟨P, w, K, mg, T⟩ base k "is_number" (sp0 ⟨P, w, K, mg, T⟩ 3 F_is_number)) : Der P w K mg base T N_is_stretch_of "is_stretch_of" s_is_stretch_of f k m_is_stretch_of := fun cdv A outer s H E hr hu tk po =>
  have nd : N_is_stretch_of.Nodup := c_is_stretch_of.nd; have hu4 := Nat.lt_of_succ_lt hu
  (s_cons (s_if ((w_or (t_not (t_val (e_isi .tuple B.isinstance B.tuple blt_tuple (e_var 1)))) (w_or1 (t_cmp o_gt (e_bi c_len B.len blt_len (a_cons (e_var 1) a_nil)) (e_var 2))))).pt (s_one (s_ret e_bl)) s_nil)
    (s_one (s_ret (e_bi (c_all rfl) B.all blt_all (a_cons (e_lc (.one 3) [("one", 3)] rfl nd (i_seq (e_var 1)) (blkOk_by (N := N_is_stretch_of) (sc := defScope s_is_stretch_of) (by decide +kernel)) (fun _ _ _ _ _ => (pg_name (i := 3) nd rfl (Or.inl rfl))) (fun _ _ _ _ _ => ts_nil) (fun _ _ _ _ _ tk => (e_call h_is_number hr tk rfl (a_cons (e_var 3) (a_cons e_int (a_cons (e_op o_sub (e_bi c_len B.len blt_len (a_cons (e_var 0) a_nil)) e_int) a_nil))))) (by decide)) a_nil)))))
theorem ok_is_stretch_of {f : Addr} {fd : FuncData} {k : Nat} (B : Bn P w K mg T) (h_is_number : Kn ⟨P, w, K, mg, T⟩ base k "is_number" (sp0 ⟨P, w, K, mg, T⟩ 3 F_is_number)) (Fu : Fun K "is_stretch_of" "is_stretch_of" s_is_stretch_of f fd) : FnOk P w K mg base (L2.CX P w) (k + 1) f fd p_is_stretch_of (sp0 ⟨P, w, K, mg, T⟩ 3 F_is_stretch_of) :=
  ok0 Fu c_is_stretch_of (d_is_stretch_of B h_is_number) rfl (fun _ _ => rfl)
abbrev s_is_road_of : Stmt := topS 14
abbrev N_is_road_of : List Str := ["value", "part"]
abbrev p_is_road_of : List Str := ["value"]
theorem c_is_road_of : FnScope N_is_road_of p_is_road_of (defScope s_is_road_of) := ⟨rfl, rfl, rfl, by decide +kernel, rfl, by decide +kernel, by decide +kernel⟩
def m_is_road_of : MS :=
  (seqM (ifM (orT (notT (tstM (isM .tuple (varM 0)))) (orT (tstM (op2M neG (biM lenG [(varM 0)]) (conM (.int 4)))) (notT (tstM (callM F_are_kinds [(op2M ixG (varM 0) (conM (.int 0)))]))))) (retM (conM (.bl false))) nxtM)
    (retM (andM (biM allB [(lcM (seqI (slM (varM 0) (someP (conM (.int 1))) noP)) (.one 1) yesM (callM F_is_stretch_of [(op2M ixG (varM 0) (conM (.int 0))), (varM 1), (conM (.int 4))]) [1])]) (op2M neG (op2M ixG (varM 0) (conM (.int 2))) (tupM [])))))
def F_is_road_of : List D → R := run0 2 m_is_road_of
theorem d_is_road_of {f : Addr} {k : Nat} (B : Bn P w K mg T) (h_are_kinds : Kn ⟨P, w, K, mg, T⟩ base k "are_kinds" (sp0 ⟨P, w, K, mg, T⟩ 1 F_are_kinds)) (h_is_stretch_of : Kn ⟨P, w, K, mg, T⟩ base k "is_stretch_of" (sp0 ⟨P, w, K, mg, T⟩ 3 F_is_stretch_of)) : Der P w K mg base T N_is_road_of "is_road_of" s_is_road_of f k m_is_road_of := fun cdv A outer s H E hr hu tk po =>
  have nd : N_is_road_of.Nodup := c_is_road_of.nd; have hu4 := Nat.lt_of_succ_lt hu
  (s_cons (s_if ((w_or (t_not (t_val (e_isi .tuple B.isinstance B.tuple blt_tuple (e_var 0)))) (w_or (t_cmp (o_ne hu4) (e_bi c_len B.len blt_len (a_cons (e_var 0) a_nil)) e_int) (w_or1 (t_not (t_val (e_call h_are_kinds hr tk rfl (a_cons (e_ix hu (e_var 0) e_int) a_nil)))))))).pt (s_one (s_ret e_bl)) s_nil)
    (s_one (s_ret (e_and (e_bi (c_all rfl) B.all blt_all (a_cons (e_lc (.one 1) [("part", 1)] rfl nd (i_seq (e_sl (e_var 0) (p_some e_int) p_none)) (blkOk_by (N := N_is_road_of) (sc := defScope s_is_road_of) (by decide +kernel)) (fun _ _ _ _ _ => (pg_name (i := 1) nd rfl (Or.inl rfl))) (fun _ _ _ _ _ => ts_nil) (fun _ _ _ _ _ tk => (e_call h_is_stretch_of hr tk rfl (a_cons (e_ix hu (e_var 0) e_int) (a_cons (e_var 1) (a_cons e_int a_nil))))) (by decide)) a_nil)) (e_one (e_cmp (o_ne hu4) (e_ix hu (e_var 0) e_int) (e_tup a_nil)))))))
theorem ok_is_road_of {f : Addr} {fd : FuncData} {k : Nat} (B : Bn P w K mg T) (h_are_kinds : Kn ⟨P, w, K, mg, T⟩ base k "are_kinds" (sp0 ⟨P, w, K, mg, T⟩ 1 F_are_kinds)) (h_is_stretch_of : Kn ⟨P, w, K, mg, T⟩ base k "is_stretch_of" (sp0 ⟨P, w, K, mg, T⟩ 3 F_is_stretch_of)) (Fu : Fun K "is_road_of" "is_road_of" s_is_road_of f fd) : FnOk P w K mg base (L2.CX P w) (k + 1) f fd p_is_road_of (sp0 ⟨P, w, K, mg, T⟩ 1 F_is_road_of) :=
  ok0 Fu c_is_road_of (d_is_road_of B h_are_kinds h_is_stretch_of) rfl (fun _ _ => rfl)
abbrev s_need_road : Stmt := topS 15
abbrev N_need_road : List Str := ["road"]
abbrev p_need_road : List Str := ["road"]
theorem c_need_road : FnScope N_need_road p_need_road (defScope s_need_road) := ⟨rfl, rfl, rfl, by decide +kernel, rfl, by decide +kernel, by decide +kernel⟩
def m_need_road : MS :=
  (ifM (notT (tstM (callM F_is_road_of [(varM 0)]))) unM nxtM)
def F_need_road : List D → R := run0 1 m_need_road
theorem d_need_road {f : Addr} {k : Nat} (B : Bn P w K mg T) (h_is_road_of : Kn ⟨P, w, K, mg, T⟩ base k "is_road_of" (sp0 ⟨P, w, K, mg, T⟩ 1 F_is_road_of)) : Der P w K mg base T N_need_road "need_road" s_need_road f k m_need_road := fun cdv A outer s H E hr hu tk po =>
  have nd : N_need_road.Nodup := c_need_road.nd; have hu4 := Nat.lt_of_succ_lt hu
  (s_one (s_if (t_not (t_val (e_call h_is_road_of hr tk rfl (a_cons (e_var 0) a_nil)))) (s_one s_un) s_nil))
theorem ok_need_road {f : Addr} {fd : FuncData} {k : Nat} (B : Bn P w K mg T) (h_is_road_of : Kn ⟨P, w, K, mg, T⟩ base k "is_road_of" (sp0 ⟨P, w, K, mg, T⟩ 1 F_is_road_of)) (Fu : Fun K "need_road" "need_road" s_need_road f fd) : FnOk P w K mg base (L2.CX P w) (k + 1) f fd p_need_road (sp0 ⟨P, w, K, mg, T⟩ 1 F_need_road) :=
  ok0 Fu c_need_road (d_need_road B h_is_road_of) rfl (fun _ _ => rfl)
abbrev s_need_number : Stmt := topS 16
abbrev N_need_number : List Str := ["value", "low", "high"]
abbrev p_need_number : List Str := ["value", "low", "high"]
theorem c_need_number : FnScope N_need_number p_need_number (defScope s_need_number) := ⟨rfl, rfl, rfl, by decide +kernel, rfl, by decide +kernel, by decide +kernel⟩
def m_need_number : MS :=
  (ifM (notT (tstM (callM F_is_number [(varM 0), (varM 1), (varM 2)]))) unM nxtM)
def F_need_number : List D → R := run0 3 m_need_number
theorem d_need_number {f : Addr} {k : Nat} (B : Bn P w K mg T) (h_is_number : Kn ⟨P, w, K, mg, T⟩ base k "is_number" (sp0 ⟨P, w, K, mg, T⟩ 3 F_is_number)) : Der P w K mg base T N_need_number "need_number" s_need_number f k m_need_number := fun cdv A outer s H E hr hu tk po =>
  have nd : N_need_number.Nodup := c_need_number.nd; have hu4 := Nat.lt_of_succ_lt hu
  (s_one (s_if (t_not (t_val (e_call h_is_number hr tk rfl (a_cons (e_var 0) (a_cons (e_var 1) (a_cons (e_var 2) a_nil)))))) (s_one s_un) s_nil))
theorem ok_need_number {f : Addr} {fd : FuncData} {k : Nat} (B : Bn P w K mg T) (h_is_number : Kn ⟨P, w, K, mg, T⟩ base k "is_number" (sp0 ⟨P, w, K, mg, T⟩ 3 F_is_number)) (Fu : Fun K "need_number" "need_number" s_need_number f fd) : FnOk P w K mg base (L2.CX P w) (k + 1) f fd p_need_number (sp0 ⟨P, w, K, mg, T⟩ 3 F_need_number) :=
  ok0 Fu c_need_number (d_need_number B h_is_number) rfl (fun _ _ => rfl)
abbrev s_length_of : Stmt := topS 17
abbrev N_length_of : List Str := ["road", "k"]
abbrev p_length_of : List Str := ["road", "k"]
theorem c_length_of : FnScope N_length_of p_length_of (defScope s_length_of) := ⟨rfl, rfl, rfl, by decide +kernel, rfl, by decide +kernel, by decide +kernel⟩
def m_length_of : MS :=
  (retM (op2M addG (op2M addG (biM lenG [(op2M ixG (varM 0) (conM (.int 1)))]) (op2M mulG (varM 1) (biM lenG [(op2M ixG (varM 0) (conM (.int 2)))]))) (biM lenG [(op2M ixG (varM 0) (conM (.int 3)))])))
def F_length_of : List D → R := run0 2 m_length_of
theorem d_length_of {f : Addr} {k : Nat} (B : Bn P w K mg T) : Der P w K mg base T N_length_of "length_of" s_length_of f k m_length_of := fun cdv A outer s H E hr hu tk po =>
  have nd : N_length_of.Nodup := c_length_of.nd; have hu4 := Nat.lt_of_succ_lt hu
  (s_one (s_ret (e_op o_add (e_op o_add (e_bi c_len B.len blt_len (a_cons (e_ix hu (e_var 0) e_int) a_nil)) (e_op o_mul (e_var 1) (e_bi c_len B.len blt_len (a_cons (e_ix hu (e_var 0) e_int) a_nil)))) (e_bi c_len B.len blt_len (a_cons (e_ix hu (e_var 0) e_int) a_nil)))))
theorem ok_length_of {f : Addr} {fd : FuncData} {k : Nat} (B : Bn P w K mg T) (Fu : Fun K "length_of" "length_of" s_length_of f fd) : FnOk P w K mg base (L2.CX P w) (k + 1) f fd p_length_of (sp0 ⟨P, w, K, mg, T⟩ 2 F_length_of) :=
  ok0 Fu c_length_of (d_length_of B) rfl (fun _ _ => rfl)
abbrev s_cells_of : Stmt := topS 18
abbrev N_cells_of : List Str := ["road", "k"]
abbrev p_cells_of : List Str := ["road", "k"]
theorem c_cells_of : FnScope N_cells_of p_cells_of (defScope s_cells_of) := ⟨rfl, rfl, rfl, by decide +kernel, rfl, by decide +kernel, by decide +kernel⟩
def m_cells_of : MS :=
  (retM (op2M addG (op2M addG (op2M ixG (varM 0) (conM (.int 1))) (op2M mulG (op2M ixG (varM 0) (conM (.int 2))) (varM 1))) (op2M ixG (varM 0) (conM (.int 3)))))
def F_cells_of : List D → R := run0 2 m_cells_of
theorem d_cells_of {f : Addr} {k : Nat} (B : Bn P w K mg T) : Der P w K mg base T N_cells_of "cells_of" s_cells_of f k m_cells_of := fun cdv A outer s H E hr hu tk po =>
  have nd : N_cells_of.Nodup := c_cells_of.nd; have hu4 := Nat.lt_of_succ_lt hu
  (s_one (s_ret (e_op o_add (e_op o_add (e_ix hu (e_var 0) e_int) (e_op o_mul (e_ix hu (e_var 0) e_int) (e_var 1))) (e_ix hu (e_var 0) e_int))))
theorem ok_cells_of {f : Addr} {fd : FuncData} {k : Nat} (B : Bn P w K mg T) (Fu : Fun K "cells_of" "cells_of" s_cells_of f fd) : FnOk P w K mg base (L2.CX P w) (k + 1) f fd p_cells_of (sp0 ⟨P, w, K, mg, T⟩ 2 F_cells_of) :=
  ok0 Fu c_cells_of (d_cells_of B) rfl (fun _ _ => rfl)
abbrev s_is_road : Stmt := topS 19
abbrev N_is_road : List Str := ["value"]
abbrev p_is_road : List Str := ["value"]
theorem c_is_road : FnScope N_is_road p_is_road (defScope s_is_road) := ⟨rfl, rfl, rfl, by decide +kernel, rfl, by decide +kernel, by decide +kernel⟩
def m_is_road : MS :=
  (retM (callM F_is_road_of [(varM 0)]))
def F_is_road : List D → R := run0 1 m_is_road
theorem d_is_road {f : Addr} {k : Nat} (B : Bn P w K mg T) (h_is_road_of : Kn ⟨P, w, K, mg, T⟩ base k "is_road_of" (sp0 ⟨P, w, K, mg, T⟩ 1 F_is_road_of)) : Der P w K mg base T N_is_road "is_road" s_is_road f k m_is_road := fun cdv A outer s H E hr hu tk po =>
  have nd : N_is_road.Nodup := c_is_road.nd; have hu4 := Nat.lt_of_succ_lt hu
  (s_one (s_ret (e_call h_is_road_of hr tk rfl (a_cons (e_var 0) a_nil))))
theorem ok_is_road {f : Addr} {fd : FuncData} {k : Nat} (B : Bn P w K mg T) (h_is_road_of : Kn ⟨P, w, K, mg, T⟩ base k "is_road_of" (sp0 ⟨P, w, K, mg, T⟩ 1 F_is_road_of)) (Fu : Fun K "is_road" "is_road" s_is_road f fd) : FnOk P w K mg base (L2.CX P w) (k + 1) f fd p_is_road (sp0 ⟨P, w, K, mg, T⟩ 1 F_is_road) :=
  ok0 Fu c_is_road (d_is_road B h_is_road_of) rfl (fun _ _ => rfl)
abbrev s_cells : Stmt := topS 20
abbrev N_cells : List Str := ["road", "k"]
abbrev p_cells : List Str := ["road", "k"]
theorem c_cells : FnScope N_cells p_cells (defScope s_cells) := ⟨rfl, rfl, rfl, by decide +kernel, rfl, by decide +kernel, by decide +kernel⟩
def m_cells : MS :=
  (seqM (drpM (callM F_need_road [(varM 0)]))
    (seqM (drpM (callM F_need_number [(varM 1), (conM (.int 0)), (conM K_MOST)]))
    (seqM (ifM (tstM (op2M gtG (callM F_length_of [(varM 0), (varM 1)]) (conM K_MANY))) unM nxtM)
    (retM (callM F_cells_of [(varM 0), (varM 1)])))))
def F_cells : List D → R := run0 2 m_cells
theorem d_cells {f : Addr} {k : Nat} (B : Bn P w K mg T) (h_need_road : Kn ⟨P, w, K, mg, T⟩ base k "need_road" (sp0 ⟨P, w, K, mg, T⟩ 1 F_need_road)) (h_need_number : Kn ⟨P, w, K, mg, T⟩ base k "need_number" (sp0 ⟨P, w, K, mg, T⟩ 3 F_need_number)) (h_length_of : Kn ⟨P, w, K, mg, T⟩ base k "length_of" (sp0 ⟨P, w, K, mg, T⟩ 2 F_length_of)) (h_cells_of : Kn ⟨P, w, K, mg, T⟩ base k "cells_of" (sp0 ⟨P, w, K, mg, T⟩ 2 F_cells_of)) : Der P w K mg base T N_cells "cells" s_cells f k m_cells := fun cdv A outer s H E hr hu tk po =>
  have nd : N_cells.Nodup := c_cells.nd; have hu4 := Nat.lt_of_succ_lt hu
  (s_cons (s_expr (e_call h_need_road hr tk rfl (a_cons (e_var 0) a_nil)))
    (s_cons (s_expr (e_call h_need_number hr tk rfl (a_cons (e_var 1) (a_cons e_int (a_cons (e_glob B.k_MOST) a_nil)))))
    (s_cons (s_if (t_cmp o_gt (e_call h_length_of hr tk rfl (a_cons (e_var 0) (a_cons (e_var 1) a_nil))) (e_glob B.k_MANY)) (s_one s_un) s_nil)
    (s_one (s_ret (e_call h_cells_of hr tk rfl (a_cons (e_var 0) (a_cons (e_var 1) a_nil))))))))
theorem ok_cells {f : Addr} {fd : FuncData} {k : Nat} (B : Bn P w K mg T) (h_need_road : Kn ⟨P, w, K, mg, T⟩ base k "need_road" (sp0 ⟨P, w, K, mg, T⟩ 1 F_need_road)) (h_need_number : Kn ⟨P, w, K, mg, T⟩ base k "need_number" (sp0 ⟨P, w, K, mg, T⟩ 3 F_need_number)) (h_length_of : Kn ⟨P, w, K, mg, T⟩ base k "length_of" (sp0 ⟨P, w, K, mg, T⟩ 2 F_length_of)) (h_cells_of : Kn ⟨P, w, K, mg, T⟩ base k "cells_of" (sp0 ⟨P, w, K, mg, T⟩ 2 F_cells_of)) (Fu : Fun K "cells" "cells" s_cells f fd) : FnOk P w K mg base (L2.CX P w) (k + 1) f fd p_cells (sp0 ⟨P, w, K, mg, T⟩ 2 F_cells) :=
  ok0 Fu c_cells (d_cells B h_need_road h_need_number h_length_of h_cells_of) rfl (fun _ _ => rfl)
abbrev s_ways_word : Stmt := topS 24
abbrev N_ways_word : List Str := ["ways", "way"]
abbrev p_ways_word : List Str := ["ways"]
theorem c_ways_word : FnScope N_ways_word p_ways_word (defScope s_ways_word) := ⟨rfl, rfl, rfl, by decide +kernel, rfl, by decide +kernel, by decide +kernel⟩
def m_ways_word : MS :=
  (retM (iteM (tstM (op2M neG (varM 0) (tupM []))) (joiM (conM (.str "")) (lcM (seqI (varM 0)) (.one 1) yesM (op2M ixG (varM 1) (conM (.int 0))) [1])) (conM (.str "-"))))
def F_ways_word : List D → R := run0 2 m_ways_word
theorem d_ways_word {f : Addr} {k : Nat} (B : Bn P w K mg T) : Der P w K mg base T N_ways_word "ways_word" s_ways_word f k m_ways_word := fun cdv A outer s H E hr hu tk po =>
  have nd : N_ways_word.Nodup := c_ways_word.nd; have hu4 := Nat.lt_of_succ_lt hu
  (s_one (s_ret (e_if (t_cmp (o_ne hu4) (e_var 0) (e_tup a_nil)) (e_me PySem.F.slot_str_join PySem.F.type_str_join mt_joinG e_str (a_cons (e_lc (.one 1) [("way", 1)] rfl nd (i_seq (e_var 0)) (blkOk_by (N := N_ways_word) (sc := defScope s_ways_word) (by decide +kernel)) (fun _ _ _ _ _ => (pg_name (i := 1) nd rfl (Or.inl rfl))) (fun _ _ _ _ _ => ts_nil) (fun _ _ _ _ _ tk => (e_ix hu (e_var 1) e_int)) (by decide)) a_nil)) e_str)))
theorem ok_ways_word {f : Addr} {fd : FuncData} {k : Nat} (B : Bn P w K mg T) (Fu : Fun K "ways_word" "ways_word" s_ways_word f fd) : FnOk P w K mg base (L2.CX P w) (k + 1) f fd p_ways_word (sp0 ⟨P, w, K, mg, T⟩ 1 F_ways_word) :=
  ok0 Fu c_ways_word (d_ways_word B) rfl (fun _ _ => rfl)
abbrev s_cells_word : Stmt := topS 25
abbrev N_cells_word : List Str := ["cells", "cell"]
abbrev p_cells_word : List Str := ["cells"]
theorem c_cells_word : FnScope N_cells_word p_cells_word (defScope s_cells_word) := ⟨rfl, rfl, rfl, by decide +kernel, rfl, by decide +kernel, by decide +kernel⟩
def m_cells_word : MS :=
  (retM (iteM (tstM (op2M neG (varM 0) (tupM []))) (joiM (conM (.str "")) (lcM (seqI (varM 0)) (.one 1) yesM (biM strG [(varM 1)]) [1])) (conM (.str "-"))))
def F_cells_word : List D → R := run0 2 m_cells_word
theorem d_cells_word {f : Addr} {k : Nat} (B : Bn P w K mg T) : Der P w K mg base T N_cells_word "cells_word" s_cells_word f k m_cells_word := fun cdv A outer s H E hr hu tk po =>
  have nd : N_cells_word.Nodup := c_cells_word.nd; have hu4 := Nat.lt_of_succ_lt hu
  (s_one (s_ret (e_if (t_cmp (o_ne hu4) (e_var 0) (e_tup a_nil)) (e_me PySem.F.slot_str_join PySem.F.type_str_join mt_joinG e_str (a_cons (e_lc (.one 1) [("cell", 1)] rfl nd (i_seq (e_var 0)) (blkOk_by (N := N_cells_word) (sc := defScope s_cells_word) (by decide +kernel)) (fun _ _ _ _ _ => (pg_name (i := 1) nd rfl (Or.inl rfl))) (fun _ _ _ _ _ => ts_nil) (fun _ _ _ _ _ tk => (e_biT c_str B.str blt_str (a_cons (e_var 1) a_nil))) (by decide)) a_nil)) e_str)))
theorem ok_cells_word {f : Addr} {fd : FuncData} {k : Nat} (B : Bn P w K mg T) (Fu : Fun K "cells_word" "cells_word" s_cells_word f fd) : FnOk P w K mg base (L2.CX P w) (k + 1) f fd p_cells_word (sp0 ⟨P, w, K, mg, T⟩ 1 F_cells_word) :=
  ok0 Fu c_cells_word (d_cells_word B) rfl (fun _ _ => rfl)
abbrev s_road_lines : Stmt := topS 26
abbrev N_road_lines : List Str := ["road", "kinds", "one", "other", "word", "part"]
abbrev p_road_lines : List Str := ["road"]
theorem c_road_lines : FnScope N_road_lines p_road_lines (defScope s_road_lines) := ⟨rfl, rfl, rfl, by decide +kernel, rfl, by decide +kernel, by decide +kernel⟩
def m_road_lines : MS :=
  (seqM (asgM (lcM (seqI (op2M ixG (varM 0) (conM (.int 0)))) (.many [2, 3]) yesM (op2M addG (op2M addG (op2M addG (conM (.str "kind ")) (callM F_ways_word [(varM 2)])) (conM (.str " "))) (callM F_ways_word [(varM 3)])) [2, 3]) (namG 1))
    (retM (op2M addG (varM 1) (lcM (zpBI (conM K_WORDS) (slM (varM 0) (someP (conM (.int 1))) noP)) (.many [4, 5]) yesM (op2M addG (op2M addG (varM 4) (conM (.str " "))) (callM F_cells_word [(varM 5)])) [4, 5]))))
def F_road_lines : List D → R := run0 6 m_road_lines
theorem d_road_lines {f : Addr} {k : Nat} (B : Bn P w K mg T) (h_ways_word : Kn ⟨P, w, K, mg, T⟩ base k "ways_word" (sp0 ⟨P, w, K, mg, T⟩ 1 F_ways_word)) (h_cells_word : Kn ⟨P, w, K, mg, T⟩ base k "cells_word" (sp0 ⟨P, w, K, mg, T⟩ 1 F_cells_word)) : Der P w K mg base T N_road_lines "road_lines" s_road_lines f k m_road_lines := fun cdv A outer s H E hr hu tk po =>
  have nd : N_road_lines.Nodup := c_road_lines.nd; have hu4 := Nat.lt_of_succ_lt hu
  (s_cons (s_lc 1 (.many [2, 3]) [("one", 2), ("other", 3)] rfl nd (i_seq (e_ix hu (e_var 0) e_int)) (blkOk_by (N := N_road_lines) (sc := defScope s_road_lines) (by decide +kernel)) (fun _ _ _ _ _ => (pg_tup rfl (gns_cons (pg_name (i := 2) nd rfl (Or.inl rfl)) (gns_cons (pg_name (i := 3) nd rfl (Or.inl rfl)) gns_nil)))) (fun _ _ _ _ _ => ts_nil) (fun _ _ _ _ _ tk => (e_op o_add (e_op o_add (e_op o_add e_str (e_call h_ways_word hr tk rfl (a_cons (e_var 2) a_nil))) e_str) (e_call h_ways_word hr tk rfl (a_cons (e_var 3) a_nil)))) (by decide) (sw_true rfl rfl rfl (by decide +kernel)))
    (s_one (s_ret (e_op o_add (e_var 1) (e_lc (.many [4, 5]) [("word", 4), ("part", 5)] rfl nd (i_zip2 B.zip (a_cons (e_glob B.k_WORDS) (a_cons (e_sl (e_var 0) (p_some e_int) p_none) a_nil))) (blkOk_by (N := N_road_lines) (sc := defScope s_road_lines) (by decide +kernel)) (fun _ _ _ _ _ => (pg_tup rfl (gns_cons (pg_name (i := 4) nd rfl (Or.inl rfl)) (gns_cons (pg_name (i := 5) nd rfl (Or.inl rfl)) gns_nil)))) (fun _ _ _ _ _ => ts_nil) (fun _ _ _ _ _ tk => (e_op o_add (e_op o_add (e_var 4) e_str) (e_call h_cells_word hr tk rfl (a_cons (e_var 5) a_nil)))) (by decide))))))
theorem ok_road_lines {f : Addr} {fd : FuncData} {k : Nat} (B : Bn P w K mg T) (h_ways_word : Kn ⟨P, w, K, mg, T⟩ base k "ways_word" (sp0 ⟨P, w, K, mg, T⟩ 1 F_ways_word)) (h_cells_word : Kn ⟨P, w, K, mg, T⟩ base k "cells_word" (sp0 ⟨P, w, K, mg, T⟩ 1 F_cells_word)) (Fu : Fun K "road_lines" "road_lines" s_road_lines f fd) : FnOk P w K mg base (L2.CX P w) (k + 1) f fd p_road_lines (sp0 ⟨P, w, K, mg, T⟩ 1 F_road_lines) :=
  ok0 Fu c_road_lines (d_road_lines B h_ways_word h_cells_word) rfl (fun _ _ => rfl)
abbrev s_ways_in : Stmt := topS 27
abbrev N_ways_in : List Str := ["word", "ways", "sign", "one", "other"]
abbrev p_ways_in : List Str := ["word"]
theorem c_ways_in : FnScope N_ways_in p_ways_in (defScope s_ways_in) := ⟨rfl, rfl, rfl, by decide +kernel, rfl, by decide +kernel, by decide +kernel⟩
def m_ways_in : MS :=
  (seqM (ifM (tstM (op2M eqG (varM 0) (conM (.str "-")))) (retM (tupM [])) nxtM)
    (seqM (ifM (orT (tstM (op2M eqG (varM 0) (conM (.str "")))) (notT (tstM (biM allB [(lcM (strI (varM 0)) (.one 2) yesM (kmIn T_LETTERS (varM 2)) [2])])))) (retM (conM .non)) nxtM)
    (seqM (asgM (biM tupleG [(lcM (strI (varM 0)) (.one 2) yesM (kmIx T_LETTERS (varM 2)) [2])]) (namG 1))
    (retM (iteM (tstM (biM allB [(lcM (zpBI (varM 1) (slM (varM 1) (someP (conM (.int 1))) noP)) (.many [3, 4]) yesM (op2M ltG (varM 3) (varM 4)) [3, 4])])) (varM 1) (conM .non))))))
def F_ways_in : List D → R := run0 5 m_ways_in
theorem d_ways_in {f : Addr} {k : Nat} (B : Bn P w K mg T) : Der P w K mg base T N_ways_in "ways_in" s_ways_in f k m_ways_in := fun cdv A outer s H E hr hu tk po =>
  have nd : N_ways_in.Nodup := c_ways_in.nd; have hu4 := Nat.lt_of_succ_lt hu
  (s_cons (s_if (t_cmp (o_eq hu4) (e_var 0) e_str) (s_one (s_ret (e_tup a_nil))) s_nil)
    (s_cons (s_if ((w_or (t_cmp (o_eq hu4) (e_var 0) e_str) (w_or1 (t_not (t_val (e_bi (c_all rfl) B.all blt_all (a_cons (e_lc (.one 2) [("sign", 2)] rfl nd (i_str (e_var 0)) (blkOk_by (N := N_ways_in) (sc := defScope s_ways_in) (by decide +kernel)) (fun _ _ _ _ _ => (pg_name (i := 2) nd rfl (Or.inl rfl))) (fun _ _ _ _ _ => ts_nil) (fun _ _ _ _ _ tk => (e_kmIn B.m_LETTERS (e_var 2))) (by decide)) a_nil))))))).pt (s_one (s_ret e_non)) s_nil)
    (s_cons (s_set 1 nd (e_biT c_tuple B.tuple blt_tuple (a_cons (e_lc (.one 2) [("sign", 2)] rfl nd (i_str (e_var 0)) (blkOk_by (N := N_ways_in) (sc := defScope s_ways_in) (by decide +kernel)) (fun _ _ _ _ _ => (pg_name (i := 2) nd rfl (Or.inl rfl))) (fun _ _ _ _ _ => ts_nil) (fun _ _ _ _ _ tk => (e_kmIx B.m_LETTERS (e_var 2))) (by decide)) a_nil)))
    (s_one (s_ret (e_if (t_val (e_bi (c_all rfl) B.all blt_all (a_cons (e_lc (.many [3, 4]) [("one", 3), ("other", 4)] rfl nd (i_zip2 B.zip (a_cons (e_var 1) (a_cons (e_sl (e_var 1) (p_some e_int) p_none) a_nil))) (blkOk_by (N := N_ways_in) (sc := defScope s_ways_in) (by decide +kernel)) (fun _ _ _ _ _ => (pg_tup rfl (gns_cons (pg_name (i := 3) nd rfl (Or.inl rfl)) (gns_cons (pg_name (i := 4) nd rfl (Or.inl rfl)) gns_nil)))) (fun _ _ _ _ _ => ts_nil) (fun _ _ _ _ _ tk => (e_cmp o_lt (e_var 3) (e_var 4))) (by decide)) a_nil))) (e_var 1) e_non))))))
theorem ok_ways_in {f : Addr} {fd : FuncData} {k : Nat} (B : Bn P w K mg T) (Fu : Fun K "ways_in" "ways_in" s_ways_in f fd) : FnOk P w K mg base (L2.CX P w) (k + 1) f fd p_ways_in (sp0 ⟨P, w, K, mg, T⟩ 1 F_ways_in) :=
  ok0 Fu c_ways_in (d_ways_in B) rfl (fun _ _ => rfl)
abbrev s_part_in : Stmt := topS 28
abbrev N_part_in : List Str := ["line", "words", "ways", "sign"]
abbrev p_part_in : List Str := ["line"]
theorem c_part_in : FnScope N_part_in p_part_in (defScope s_part_in) := ⟨rfl, rfl, rfl, by decide +kernel, rfl, by decide +kernel, by decide +kernel⟩
def m_part_in : MS :=
  (seqM (asgM (splM (varM 0) (conM (.str " "))) (namG 1))
    (seqM (ifM (andT (tstM (op2M eqG (op2M ixG (varM 1) (conM (.int 0))) (conM (.str "kind")))) (tstM (op2M eqG (biM lenG [(varM 1)]) (conM (.int 3))))) (seqM (asgM (tupM [(callM F_ways_in [(op2M ixG (varM 1) (conM (.int 1)))]), (callM F_ways_in [(op2M ixG (varM 1) (conM (.int 2)))])]) (namG 2))
    (retM (iteM (tstM (op2M inG (conM .non) (varM 2))) (conM .non) (tupM [(conM (.str "kind")), (varM 2)])))) nxtM)
    (seqM (ifM (orT (tstM (op2M notInG (op2M ixG (varM 1) (conM (.int 0))) (conM K_WORDS))) (tstM (op2M neG (biM lenG [(varM 1)]) (conM (.int 2))))) (retM (conM .non)) nxtM)
    (seqM (ifM (tstM (op2M eqG (op2M ixG (varM 1) (conM (.int 1))) (conM (.str "-")))) (retM (tupM [(op2M ixG (varM 1) (conM (.int 0))), (tupM [])])) nxtM)
    (seqM (ifM (orT (tstM (op2M eqG (op2M ixG (varM 1) (conM (.int 1))) (conM (.str "")))) (notT (tstM (biM allB [(lcM (strI (op2M ixG (varM 1) (conM (.int 1)))) (.one 3) yesM (op2M inG (varM 3) (conM (.str "0123"))) [3])])))) (retM (conM .non)) nxtM)
    (retM (tupM [(op2M ixG (varM 1) (conM (.int 0))), (biM tupleG [(lcM (strI (op2M ixG (varM 1) (conM (.int 1)))) (.one 3) yesM (biM intG [(varM 3)]) [3])])])))))))
def F_part_in : List D → R := run0 4 m_part_in
theorem d_part_in {f : Addr} {k : Nat} (B : Bn P w K mg T) (h_ways_in : Kn ⟨P, w, K, mg, T⟩ base k "ways_in" (sp0 ⟨P, w, K, mg, T⟩ 1 F_ways_in)) : Der P w K mg base T N_part_in "part_in" s_part_in f k m_part_in := fun cdv A outer s H E hr hu tk po =>
  have nd : N_part_in.Nodup := c_part_in.nd; have hu4 := Nat.lt_of_succ_lt hu
  (s_cons (s_set 1 nd (e_me PySem.F.slot_str_split PySem.F.type_str_split mt_splG (e_var 0) (a_cons e_str a_nil)))
    (s_cons (s_if ((w_and (t_cmp (o_eq hu4) (e_ix hu (e_var 1) e_int) e_str) (w_and1 (t_cmp (o_eq hu4) (e_bi c_len B.len blt_len (a_cons (e_var 1) a_nil)) e_int)))).pt (s_cons (s_set 2 nd (e_tup (a_cons (e_call h_ways_in hr tk rfl (a_cons (e_ix hu (e_var 1) e_int) a_nil)) (a_cons (e_call h_ways_in hr tk rfl (a_cons (e_ix hu (e_var 1) e_int) a_nil)) a_nil))))
    (s_one (s_ret (e_if (t_cmp (o_in hu) e_non (e_var 2)) e_non (e_tup (a_cons e_str (a_cons (e_var 2) a_nil))))))) s_nil)
    (s_cons (s_if ((w_or (t_cmp (o_notIn hu) (e_ix hu (e_var 1) e_int) (e_glob B.k_WORDS)) (w_or1 (t_cmp (o_ne hu4) (e_bi c_len B.len blt_len (a_cons (e_var 1) a_nil)) e_int)))).pt (s_one (s_ret e_non)) s_nil)
    (s_cons (s_if (t_cmp (o_eq hu4) (e_ix hu (e_var 1) e_int) e_str) (s_one (s_ret (e_tup (a_cons (e_ix hu (e_var 1) e_int) (a_cons (e_tup a_nil) a_nil))))) s_nil)
    (s_cons (s_if ((w_or (t_cmp (o_eq hu4) (e_ix hu (e_var 1) e_int) e_str) (w_or1 (t_not (t_val (e_bi (c_all rfl) B.all blt_all (a_cons (e_lc (.one 3) [("sign", 3)] rfl nd (i_str (e_ix hu (e_var 1) e_int)) (blkOk_by (N := N_part_in) (sc := defScope s_part_in) (by decide +kernel)) (fun _ _ _ _ _ => (pg_name (i := 3) nd rfl (Or.inl rfl))) (fun _ _ _ _ _ => ts_nil) (fun _ _ _ _ _ tk => (e_cmp (o_in hu) (e_var 3) e_str)) (by decide)) a_nil))))))).pt (s_one (s_ret e_non)) s_nil)
    (s_one (s_ret (e_tup (a_cons (e_ix hu (e_var 1) e_int) (a_cons (e_biT c_tuple B.tuple blt_tuple (a_cons (e_lc (.one 3) [("sign", 3)] rfl nd (i_str (e_ix hu (e_var 1) e_int)) (blkOk_by (N := N_part_in) (sc := defScope s_part_in) (by decide +kernel)) (fun _ _ _ _ _ => (pg_name (i := 3) nd rfl (Or.inl rfl))) (fun _ _ _ _ _ => ts_nil) (fun _ _ _ _ _ tk => (e_biT c_int B.int blt_int (a_cons (e_var 3) a_nil))) (by decide)) a_nil)) a_nil))))))))))
theorem ok_part_in {f : Addr} {fd : FuncData} {k : Nat} (B : Bn P w K mg T) (h_ways_in : Kn ⟨P, w, K, mg, T⟩ base k "ways_in" (sp0 ⟨P, w, K, mg, T⟩ 1 F_ways_in)) (Fu : Fun K "part_in" "part_in" s_part_in f fd) : FnOk P w K mg base (L2.CX P w) (k + 1) f fd p_part_in (sp0 ⟨P, w, K, mg, T⟩ 1 F_part_in) :=
  ok0 Fu c_part_in (d_part_in B h_ways_in) rfl (fun _ _ => rfl)
abbrev s_road_text : Stmt := topS 29
abbrev N_road_text : List Str := ["road"]
abbrev p_road_text : List Str := ["road"]
theorem c_road_text : FnScope N_road_text p_road_text (defScope s_road_text) := ⟨rfl, rfl, rfl, by decide +kernel, rfl, by decide +kernel, by decide +kernel⟩
def m_road_text : MS :=
  (seqM (drpM (callM F_need_road [(varM 0)]))
    (retM (joiM (conM (.str "\n")) (callM F_road_lines [(varM 0)]))))
def F_road_text : List D → R := run0 1 m_road_text
theorem d_road_text {f : Addr} {k : Nat} (B : Bn P w K mg T) (h_need_road : Kn ⟨P, w, K, mg, T⟩ base k "need_road" (sp0 ⟨P, w, K, mg, T⟩ 1 F_need_road)) (h_road_lines : Kn ⟨P, w, K, mg, T⟩ base k "road_lines" (sp0 ⟨P, w, K, mg, T⟩ 1 F_road_lines)) : Der P w K mg base T N_road_text "road_text" s_road_text f k m_road_text := fun cdv A outer s H E hr hu tk po =>
  have nd : N_road_text.Nodup := c_road_text.nd; have hu4 := Nat.lt_of_succ_lt hu
  (s_cons (s_expr (e_call h_need_road hr tk rfl (a_cons (e_var 0) a_nil)))
    (s_one (s_ret (e_me PySem.F.slot_str_join PySem.F.type_str_join mt_joinG e_str (a_cons (e_call h_road_lines hr tk rfl (a_cons (e_var 0) a_nil)) a_nil)))))
theorem ok_road_text {f : Addr} {fd : FuncData} {k : Nat} (B : Bn P w K mg T) (h_need_road : Kn ⟨P, w, K, mg, T⟩ base k "need_road" (sp0 ⟨P, w, K, mg, T⟩ 1 F_need_road)) (h_road_lines : Kn ⟨P, w, K, mg, T⟩ base k "road_lines" (sp0 ⟨P, w, K, mg, T⟩ 1 F_road_lines)) (Fu : Fun K "road_text" "road_text" s_road_text f fd) : FnOk P w K mg base (L2.CX P w) (k + 1) f fd p_road_text (sp0 ⟨P, w, K, mg, T⟩ 1 F_road_text) :=
  ok0 Fu c_road_text (d_road_text B h_need_road h_road_lines) rfl (fun _ _ => rfl)
abbrev s_read_road : Stmt := topS 30
abbrev N_read_road : List Str := ["value", "lines", "parts", "many", "road", "line", "word", "part"]
abbrev p_read_road : List Str := ["value"]
theorem c_read_road : FnScope N_read_road p_read_road (defScope s_read_road) := ⟨rfl, rfl, rfl, by decide +kernel, rfl, by decide +kernel, by decide +kernel⟩
def m_read_road : MS :=
  (seqM (ifM (notT (tstM (isM .str (varM 0)))) unM nxtM)
    (seqM (asgM (splM (varM 0) (conM (.str "\n"))) (namG 1))
    (seqM (asgM (lcM (seqI (varM 1)) (.one 5) yesM (callM F_part_in [(varM 5)]) [5]) (namG 2))
    (seqM (ifM (tstM (op2M inG (conM .non) (varM 2))) unM nxtM)
    (seqM (asgM (op2M subG (biM lenG [(varM 2)]) (conM (.int 3))) (namG 3))
    (seqM (ifM (orT (tstM (op2M ltG (varM 3) (conM (.int 1)))) (tstM (op2M neG (lcM (seqI (varM 2)) (.many [6, 7]) yesM (varM 6) [6, 7]) (op2M addG (op2M mulG (lstM [(conM (.str "kind"))]) (varM 3)) (biM listG [(conM K_WORDS)]))))) unM nxtM)
    (seqM (asgM (op2M addG (tupM [(biM tupleG [(lcM (seqI (slM (varM 2) noP (someP (varM 3)))) (.many [6, 7]) yesM (varM 7) [6, 7])])]) (biM tupleG [(lcM (seqI (slM (varM 2) (someP (varM 3)) noP)) (.many [6, 7]) yesM (varM 7) [6, 7])])) (namG 4))
    (seqM (ifM (notT (tstM (callM F_is_road_of [(varM 4)]))) unM nxtM)
    (retM (varM 4))))))))))
def F_read_road : List D → R := run0 8 m_read_road
theorem d_read_road {f : Addr} {k : Nat} (B : Bn P w K mg T) (h_part_in : Kn ⟨P, w, K, mg, T⟩ base k "part_in" (sp0 ⟨P, w, K, mg, T⟩ 1 F_part_in)) (h_is_road_of : Kn ⟨P, w, K, mg, T⟩ base k "is_road_of" (sp0 ⟨P, w, K, mg, T⟩ 1 F_is_road_of)) : Der P w K mg base T N_read_road "read_road" s_read_road f k m_read_road := fun cdv A outer s H E hr hu tk po =>
  have nd : N_read_road.Nodup := c_read_road.nd; have hu4 := Nat.lt_of_succ_lt hu
  (s_cons (s_if (t_not (t_val (e_isi .str B.isinstance B.str blt_str (e_var 0)))) (s_one s_un) s_nil)
    (s_cons (s_set 1 nd (e_me PySem.F.slot_str_split PySem.F.type_str_split mt_splG (e_var 0) (a_cons e_str a_nil)))
    (s_cons (s_lc 2 (.one 5) [("line", 5)] rfl nd (i_seq (e_var 1)) (blkOk_by (N := N_read_road) (sc := defScope s_read_road) (by decide +kernel)) (fun _ _ _ _ _ => (pg_name (i := 5) nd rfl (Or.inl rfl))) (fun _ _ _ _ _ => ts_nil) (fun _ _ _ _ _ tk => (e_call h_part_in hr tk rfl (a_cons (e_var 5) a_nil))) (by decide) (sw_true rfl rfl rfl (by decide +kernel)))
    (s_cons (s_if (t_cmp (o_in hu) e_non (e_var 2)) (s_one s_un) s_nil)
    (s_cons (s_set 3 nd (e_op o_sub (e_bi c_len B.len blt_len (a_cons (e_var 2) a_nil)) e_int))
    (s_cons (s_if ((w_or (t_cmp o_lt (e_var 3) e_int) (w_or1 (t_cmp (o_ne hu4) (e_lc (.many [6, 7]) [("word", 6), ("part", 7)] rfl nd (i_seq (e_var 2)) (blkOk_by (N := N_read_road) (sc := defScope s_read_road) (by decide +kernel)) (fun _ _ _ _ _ => (pg_tup rfl (gns_cons (pg_name (i := 6) nd rfl (Or.inl rfl)) (gns_cons (pg_name (i := 7) nd rfl (Or.inl rfl)) gns_nil)))) (fun _ _ _ _ _ => ts_nil) (fun _ _ _ _ _ tk => (e_var 6)) (by decide)) (e_op o_add (e_op o_mul (e_lst (a_cons e_str a_nil)) (e_var 3)) (e_biT c_list B.list blt_list (a_cons (e_glob B.k_WORDS) a_nil))))))).pt (s_one s_un) s_nil)
    (s_cons (s_set 4 nd (e_op o_add (e_tup (a_cons (e_biT c_tuple B.tuple blt_tuple (a_cons (e_lc (.many [6, 7]) [("word", 6), ("part", 7)] rfl nd (i_seq (e_sl (e_var 2) p_none (p_some (e_var 3)))) (blkOk_by (N := N_read_road) (sc := defScope s_read_road) (by decide +kernel)) (fun _ _ _ _ _ => (pg_tup rfl (gns_cons (pg_name (i := 6) nd rfl (Or.inl rfl)) (gns_cons (pg_name (i := 7) nd rfl (Or.inl rfl)) gns_nil)))) (fun _ _ _ _ _ => ts_nil) (fun _ _ _ _ _ tk => (e_var 7)) (by decide)) a_nil)) a_nil)) (e_biT c_tuple B.tuple blt_tuple (a_cons (e_lc (.many [6, 7]) [("word", 6), ("part", 7)] rfl nd (i_seq (e_sl (e_var 2) (p_some (e_var 3)) p_none)) (blkOk_by (N := N_read_road) (sc := defScope s_read_road) (by decide +kernel)) (fun _ _ _ _ _ => (pg_tup rfl (gns_cons (pg_name (i := 6) nd rfl (Or.inl rfl)) (gns_cons (pg_name (i := 7) nd rfl (Or.inl rfl)) gns_nil)))) (fun _ _ _ _ _ => ts_nil) (fun _ _ _ _ _ tk => (e_var 7)) (by decide)) a_nil))))
    (s_cons (s_if (t_not (t_val (e_call h_is_road_of hr tk rfl (a_cons (e_var 4) a_nil)))) (s_one s_un) s_nil)
    (s_one (s_ret (e_var 4)))))))))))
theorem ok_read_road {f : Addr} {fd : FuncData} {k : Nat} (B : Bn P w K mg T) (h_part_in : Kn ⟨P, w, K, mg, T⟩ base k "part_in" (sp0 ⟨P, w, K, mg, T⟩ 1 F_part_in)) (h_is_road_of : Kn ⟨P, w, K, mg, T⟩ base k "is_road_of" (sp0 ⟨P, w, K, mg, T⟩ 1 F_is_road_of)) (Fu : Fun K "read_road" "read_road" s_read_road f fd) : FnOk P w K mg base (L2.CX P w) (k + 1) f fd p_read_road (sp0 ⟨P, w, K, mg, T⟩ 1 F_read_road) :=
  ok0 Fu c_read_road (d_read_road B h_part_in h_is_road_of) rfl (fun _ _ => rfl)
abbrev s__law_sack : Stmt := topS 32
abbrev N__law_sack : List Str := ["cell", "salt", "great"]
abbrev p__law_sack : List Str := ["cell", "salt"]
theorem c__law_sack : FnScope N__law_sack p__law_sack (defScope s__law_sack) := ⟨rfl, rfl, rfl, by decide +kernel, rfl, by decide +kernel, by decide +kernel⟩
def m__law_sack : MS :=
  (seqM (asgM (iteM (tstM (op2M geG (varM 0) (op2M powG (conM (.int 10)) (conM (.int 18))))) (op2M addG (op2M fdivG (varM 0) (conM (.int 10))) (op2M mulG (conM (.int 41)) (varM 1))) (conM (.int 0))) (namG 2))
    (retM (nlsM [(varM 2), (op2M addG (op2M modG (biM intG [(op2M addG (op2M mulG (varM 0) (conM (.int 73))) (op2M mulG (conM (.int 1039)) (varM 1)))]) (conM (.int 2017504241))) (conM (.int 43)))])))
def F__law_sack : List D → RNw := runN 3 m__law_sack
theorem d__law_sack {f : Addr} {k : Nat} (B : Bn P w K mg T) : Der P w K mg base T N__law_sack "_law_sack" s__law_sack f k m__law_sack := fun cdv A outer s H E hr hu tk po =>
  have nd : N__law_sack.Nodup := c__law_sack.nd; have hu4 := Nat.lt_of_succ_lt hu
  (s_cons (s_set 2 nd (e_if (t_cmp o_ge (e_var 0) (e_op o_pow e_int e_int)) (e_op o_add (e_op o_fdiv (e_var 0) e_int) (e_op o_mul e_int (e_var 1))) e_int))
    (s_one (s_ret (e_nls (a_cons (e_var 2) (a_cons (e_op o_add (e_op o_mod (e_biT c_int B.int blt_int (a_cons (e_op o_add (e_op o_mul (e_var 0) e_int) (e_op o_mul e_int (e_var 1))) a_nil)) e_int) e_int) a_nil))))))
theorem ok__law_sack {f : Addr} {fd : FuncData} {k : Nat} (B : Bn P w K mg T) (Fu : Fun K "_law_sack" "_law_sack" s__law_sack f fd) : FnOk P w K mg base (L2.CX P w) (k + 1) f fd p__law_sack (spN ⟨P, w, K, mg, T⟩ 2 F__law_sack) :=
  okN Fu c__law_sack (d__law_sack B) rfl (fun _ _ => rfl)
abbrev s__law_grip : Stmt := topS 33
abbrev N__law_grip : List Str := ["sack", "many", "deep", "found"]
abbrev p__law_grip : List Str := ["sack", "many"]
theorem c__law_grip : FnScope N__law_grip p__law_grip (defScope s__law_grip) := ⟨rfl, rfl, rfl, by decide +kernel, rfl, by decide +kernel, by decide +kernel⟩
def m__law_grip : MS :=
  (seqM (ifM (tstM (op2M gtG (op2M ixG (varM 0) (conM (.int 0))) (conM (.int 0)))) (seqM (asgM (op2M modG (biM intG [(op2M ixG (varM 0) (conM (.int 0)))]) (varM 1)) (namG 3))
    (seqM (setM (varM 0) (conM (.int 0)) (op2M fdivG (op2M ixG (varM 0) (conM (.int 0))) (varM 1)))
    (retM (varM 3)))) nxtM)
    (seqM (setM (varM 0) (conM (.int 1)) (op2M modG (biM intG [(op2M addG (op2M mulG (op2M ixG (varM 0) (conM (.int 1))) (conM (.int 35023))) (conM (.int 9001)))]) (conM (.int 2147483549))))
    (seqM (asgM (op2M modG (biM intG [(op2M mulG (op2M ixG (varM 0) (conM (.int 1))) (op2M addG (op2M ixG (varM 0) (conM (.int 1))) (conM (.int 79))))]) (conM (.int 2147483587))) (namG 2))
    (retM (op2M modG (biM intG [(op2M fdivG (varM 2) (conM (.int 593)))]) (varM 1))))))
def F__law_grip : List D → Cell → R1 := run1 4 0 m__law_grip
theorem d__law_grip {f : Addr} {k : Nat} (B : Bn P w K mg T) : Der P w K mg base T N__law_grip "_law_grip" s__law_grip f k m__law_grip := fun cdv A outer s H E hr hu tk po =>
  have nd : N__law_grip.Nodup := c__law_grip.nd; have hu4 := Nat.lt_of_succ_lt hu
  (s_cons (s_if (t_cmp o_gt (e_ix hu (e_var 0) e_int) e_int) (s_cons (s_set 3 nd (e_op o_mod (e_biT c_int B.int blt_int (a_cons (e_ix hu (e_var 0) e_int) a_nil)) (e_var 1)))
    (s_cons (s_setI hu (e_op o_fdiv (e_ix hu (e_var 0) e_int) (e_var 1)) (e_var 0) e_int)
    (s_one (s_ret (e_var 3))))) s_nil)
    (s_cons (s_setI hu (e_op o_mod (e_biT c_int B.int blt_int (a_cons (e_op o_add (e_op o_mul (e_ix hu (e_var 0) e_int) e_int) e_int) a_nil)) e_int) (e_var 0) e_int)
    (s_cons (s_set 2 nd (e_op o_mod (e_biT c_int B.int blt_int (a_cons (e_op o_mul (e_ix hu (e_var 0) e_int) (e_op o_add (e_ix hu (e_var 0) e_int) e_int)) a_nil)) e_int))
    (s_one (s_ret (e_op o_mod (e_biT c_int B.int blt_int (a_cons (e_op o_fdiv (e_var 2) e_int) a_nil)) (e_var 1)))))))
theorem ok__law_grip {f : Addr} {fd : FuncData} {k : Nat} (B : Bn P w K mg T) (Fu : Fun K "_law_grip" "_law_grip" s__law_grip f fd) : FnOk P w K mg base (L2.CX P w) (k + 1) f fd p__law_grip (sp1 ⟨P, w, K, mg, T⟩ 2 0 F__law_grip) :=
  ok1 Fu c__law_grip (d__law_grip B) rfl (fun _ _ _ => rfl)
abbrev s__law_pick : Stmt := topS 34
abbrev N__law_pick : List Str := ["sack", "things"]
abbrev p__law_pick : List Str := ["sack", "things"]
theorem c__law_pick : FnScope N__law_pick p__law_pick (defScope s__law_pick) := ⟨rfl, rfl, rfl, by decide +kernel, rfl, by decide +kernel, by decide +kernel⟩
def m__law_pick : MS :=
  (retM (op2M ixG (varM 1) (callC 0 F__law_grip [(varM 0), (biM lenG [(varM 1)])])))
def F__law_pick : List D → Cell → R1 := run1 2 0 m__law_pick
theorem d__law_pick {f : Addr} {k : Nat} (B : Bn P w K mg T) (h__law_grip : Kn ⟨P, w, K, mg, T⟩ base k "_law_grip" (sp1 ⟨P, w, K, mg, T⟩ 2 0 F__law_grip)) : Der P w K mg base T N__law_pick "_law_pick" s__law_pick f k m__law_pick := fun cdv A outer s H E hr hu tk po =>
  have nd : N__law_pick.Nodup := c__law_pick.nd; have hu4 := Nat.lt_of_succ_lt hu
  (s_one (s_ret (e_ix hu (e_var 1) (e_callC h__law_grip hr tk rfl (a_cons (e_var 0) (a_cons (e_bi c_len B.len blt_len (a_cons (e_var 1) a_nil)) a_nil))))))
theorem ok__law_pick {f : Addr} {fd : FuncData} {k : Nat} (B : Bn P w K mg T) (h__law_grip : Kn ⟨P, w, K, mg, T⟩ base k "_law_grip" (sp1 ⟨P, w, K, mg, T⟩ 2 0 F__law_grip)) (Fu : Fun K "_law_pick" "_law_pick" s__law_pick f fd) : FnOk P w K mg base (L2.CX P w) (k + 1) f fd p__law_pick (sp1 ⟨P, w, K, mg, T⟩ 2 0 F__law_pick) :=
  ok1 Fu c__law_pick (d__law_pick B h__law_grip) rfl (fun _ _ _ => rfl)
abbrev s__law_ways : Stmt := topS 35
abbrev N__law_ways : List Str := ["sack", "some"]
abbrev p__law_ways : List Str := ["sack"]
theorem c__law_ways : FnScope N__law_ways p__law_ways (defScope s__law_ways) := ⟨rfl, rfl, rfl, by decide +kernel, rfl, by decide +kernel, by decide +kernel⟩
def m__law_ways : MS :=
  (seqM (asgM (lstM [(tupM []), (tupM [(conM (.str "left"))]), (tupM [(conM (.str "right"))]), (tupM [(conM (.str "left"))]), (tupM [(conM (.str "right"))]), (tupM [(conM (.str "stay"))]), (tupM [(conM (.str "left")), (conM (.str "right"))]), (tupM [(conM (.str "left")), (conM (.str "stay"))])]) (namG 1))
    (retM (callC 0 F__law_pick [(varM 0), (op2M addG (varM 1) (lstM [(tupM [(conM (.str "right")), (conM (.str "stay"))]), (tupM [(conM (.str "left")), (conM (.str "right"))]), (tupM [(conM (.str "left")), (conM (.str "right")), (conM (.str "stay"))]), (tupM [(conM (.str "right"))])]))])))
def F__law_ways : List D → Cell → R1 := run1 2 0 m__law_ways
theorem d__law_ways {f : Addr} {k : Nat} (B : Bn P w K mg T) (h__law_pick : Kn ⟨P, w, K, mg, T⟩ base k "_law_pick" (sp1 ⟨P, w, K, mg, T⟩ 2 0 F__law_pick)) : Der P w K mg base T N__law_ways "_law_ways" s__law_ways f k m__law_ways := fun cdv A outer s H E hr hu tk po =>
  have nd : N__law_ways.Nodup := c__law_ways.nd; have hu4 := Nat.lt_of_succ_lt hu
  (s_cons (s_set 1 nd (e_lst (a_cons (e_tup a_nil) (a_cons (e_tup (a_cons e_str a_nil)) (a_cons (e_tup (a_cons e_str a_nil)) (a_cons (e_tup (a_cons e_str a_nil)) (a_cons (e_tup (a_cons e_str a_nil)) (a_cons (e_tup (a_cons e_str a_nil)) (a_cons (e_tup (a_cons e_str (a_cons e_str a_nil))) (a_cons (e_tup (a_cons e_str (a_cons e_str a_nil))) a_nil))))))))))
    (s_one (s_ret (e_callC h__law_pick hr tk rfl (a_cons (e_var 0) (a_cons (e_op o_add (e_var 1) (e_lst (a_cons (e_tup (a_cons e_str (a_cons e_str a_nil))) (a_cons (e_tup (a_cons e_str (a_cons e_str a_nil))) (a_cons (e_tup (a_cons e_str (a_cons e_str (a_cons e_str a_nil)))) (a_cons (e_tup (a_cons e_str a_nil)) a_nil)))))) a_nil))))))
theorem ok__law_ways {f : Addr} {fd : FuncData} {k : Nat} (B : Bn P w K mg T) (h__law_pick : Kn ⟨P, w, K, mg, T⟩ base k "_law_pick" (sp1 ⟨P, w, K, mg, T⟩ 2 0 F__law_pick)) (Fu : Fun K "_law_ways" "_law_ways" s__law_ways f fd) : FnOk P w K mg base (L2.CX P w) (k + 1) f fd p__law_ways (sp1 ⟨P, w, K, mg, T⟩ 1 0 F__law_ways) :=
  ok1 Fu c__law_ways (d__law_ways B h__law_pick) rfl (fun _ _ _ => rfl)
abbrev s__law_kinds : Stmt := topS 36
abbrev N__law_kinds : List Str := ["sack", "most", "kind"]
abbrev p__law_kinds : List Str := ["sack", "most"]
theorem c__law_kinds : FnScope N__law_kinds p__law_kinds (defScope s__law_kinds) := ⟨rfl, rfl, rfl, by decide +kernel, rfl, by decide +kernel, by decide +kernel⟩
def m__law_kinds : MS :=
  (retM (biM tupleG [(lcM (rng1I (op2M addG (conM (.int 1)) (callC 0 F__law_grip [(varM 0), (varM 1)]))) (.one 2) yesM (tupM [(callC 0 F__law_ways [(varM 0)]), (callC 0 F__law_ways [(varM 0)])]) [2])]))
def F__law_kinds : List D → Cell → R1 := run1 3 0 m__law_kinds
theorem d__law_kinds {f : Addr} {k : Nat} (B : Bn P w K mg T) (h__law_grip : Kn ⟨P, w, K, mg, T⟩ base k "_law_grip" (sp1 ⟨P, w, K, mg, T⟩ 2 0 F__law_grip)) (h__law_ways : Kn ⟨P, w, K, mg, T⟩ base k "_law_ways" (sp1 ⟨P, w, K, mg, T⟩ 1 0 F__law_ways)) : Der P w K mg base T N__law_kinds "_law_kinds" s__law_kinds f k m__law_kinds := fun cdv A outer s H E hr hu tk po =>
  have nd : N__law_kinds.Nodup := c__law_kinds.nd; have hu4 := Nat.lt_of_succ_lt hu
  (s_one (s_ret (e_biT c_tuple B.tuple blt_tuple (a_cons (e_lc (.one 2) [("kind", 2)] rfl nd (i_rng1 B.range (a_cons (e_op o_add e_int (e_callC h__law_grip hr tk rfl (a_cons (e_var 0) (a_cons (e_var 1) a_nil)))) a_nil)) (blkOk_by (N := N__law_kinds) (sc := defScope s__law_kinds) (by decide +kernel)) (fun _ _ _ _ _ => (pg_name (i := 2) nd rfl (Or.inl rfl))) (fun _ _ _ _ _ => ts_nil) (fun _ _ _ _ _ tk => (e_tup (a_cons (e_callC h__law_ways hr tk rfl (a_cons (e_var 0) a_nil)) (a_cons (e_callC h__law_ways hr tk rfl (a_cons (e_var 0) a_nil)) a_nil)))) (by decide)) a_nil))))
theorem ok__law_kinds {f : Addr} {fd : FuncData} {k : Nat} (B : Bn P w K mg T) (h__law_grip : Kn ⟨P, w, K, mg, T⟩ base k "_law_grip" (sp1 ⟨P, w, K, mg, T⟩ 2 0 F__law_grip)) (h__law_ways : Kn ⟨P, w, K, mg, T⟩ base k "_law_ways" (sp1 ⟨P, w, K, mg, T⟩ 1 0 F__law_ways)) (Fu : Fun K "_law_kinds" "_law_kinds" s__law_kinds f fd) : FnOk P w K mg base (L2.CX P w) (k + 1) f fd p__law_kinds (sp1 ⟨P, w, K, mg, T⟩ 2 0 F__law_kinds) :=
  ok1 Fu c__law_kinds (d__law_kinds B h__law_grip h__law_ways) rfl (fun _ _ _ => rfl)
abbrev s__law_cells : Stmt := topS 37
abbrev N__law_cells : List Str := ["sack", "kinds", "least", "most", "cell"]
abbrev p__law_cells : List Str := ["sack", "kinds", "least", "most"]
theorem c__law_cells : FnScope N__law_cells p__law_cells (defScope s__law_cells) := ⟨rfl, rfl, rfl, by decide +kernel, rfl, by decide +kernel, by decide +kernel⟩
def m__law_cells : MS :=
  (retM (biM tupleG [(lcM (rng1I (op2M addG (varM 2) (callC 0 F__law_grip [(varM 0), (op2M addG (op2M subG (varM 3) (varM 2)) (conM (.int 1)))]))) (.one 4) yesM (callC 0 F__law_grip [(varM 0), (biM lenG [(varM 1)])]) [4])]))
def F__law_cells : List D → Cell → R1 := run1 5 0 m__law_cells
theorem d__law_cells {f : Addr} {k : Nat} (B : Bn P w K mg T) (h__law_grip : Kn ⟨P, w, K, mg, T⟩ base k "_law_grip" (sp1 ⟨P, w, K, mg, T⟩ 2 0 F__law_grip)) : Der P w K mg base T N__law_cells "_law_cells" s__law_cells f k m__law_cells := fun cdv A outer s H E hr hu tk po =>
  have nd : N__law_cells.Nodup := c__law_cells.nd; have hu4 := Nat.lt_of_succ_lt hu
  (s_one (s_ret (e_biT c_tuple B.tuple blt_tuple (a_cons (e_lc (.one 4) [("cell", 4)] rfl nd (i_rng1 B.range (a_cons (e_op o_add (e_var 2) (e_callC h__law_grip hr tk rfl (a_cons (e_var 0) (a_cons (e_op o_add (e_op o_sub (e_var 3) (e_var 2)) e_int) a_nil)))) a_nil)) (blkOk_by (N := N__law_cells) (sc := defScope s__law_cells) (by decide +kernel)) (fun _ _ _ _ _ => (pg_name (i := 4) nd rfl (Or.inl rfl))) (fun _ _ _ _ _ => ts_nil) (fun _ _ _ _ _ tk => (e_callC h__law_grip hr tk rfl (a_cons (e_var 0) (a_cons (e_bi c_len B.len blt_len (a_cons (e_var 1) a_nil)) a_nil)))) (by decide)) a_nil))))
theorem ok__law_cells {f : Addr} {fd : FuncData} {k : Nat} (B : Bn P w K mg T) (h__law_grip : Kn ⟨P, w, K, mg, T⟩ base k "_law_grip" (sp1 ⟨P, w, K, mg, T⟩ 2 0 F__law_grip)) (Fu : Fun K "_law_cells" "_law_cells" s__law_cells f fd) : FnOk P w K mg base (L2.CX P w) (k + 1) f fd p__law_cells (sp1 ⟨P, w, K, mg, T⟩ 4 0 F__law_cells) :=
  ok1 Fu c__law_cells (d__law_cells B h__law_grip) rfl (fun _ _ _ => rfl)
abbrev s__law_road : Stmt := topS 38
abbrev N__law_road : List Str := ["sack", "most", "kinds"]
abbrev p__law_road : List Str := ["sack", "most"]
theorem c__law_road : FnScope N__law_road p__law_road (defScope s__law_road) := ⟨rfl, rfl, rfl, by decide +kernel, rfl, by decide +kernel, by decide +kernel⟩
def m__law_road : MS :=
  (seqM (asgM (callC 0 F__law_kinds [(varM 0), (conM (.int 4))]) (namG 2))
    (retM (tupM [(varM 2), (callC 0 F__law_cells [(varM 0), (varM 2), (conM (.int 0)), (varM 1)]), (callC 0 F__law_cells [(varM 0), (varM 2), (conM (.int 1)), (varM 1)]), (callC 0 F__law_cells [(varM 0), (varM 2), (conM (.int 0)), (varM 1)])])))
def F__law_road : List D → Cell → R1 := run1 3 0 m__law_road
theorem d__law_road {f : Addr} {k : Nat} (B : Bn P w K mg T) (h__law_kinds : Kn ⟨P, w, K, mg, T⟩ base k "_law_kinds" (sp1 ⟨P, w, K, mg, T⟩ 2 0 F__law_kinds)) (h__law_cells : Kn ⟨P, w, K, mg, T⟩ base k "_law_cells" (sp1 ⟨P, w, K, mg, T⟩ 4 0 F__law_cells)) : Der P w K mg base T N__law_road "_law_road" s__law_road f k m__law_road := fun cdv A outer s H E hr hu tk po =>
  have nd : N__law_road.Nodup := c__law_road.nd; have hu4 := Nat.lt_of_succ_lt hu
  (s_cons (s_set 2 nd (e_callC h__law_kinds hr tk rfl (a_cons (e_var 0) (a_cons e_int a_nil))))
    (s_one (s_ret (e_tup (a_cons (e_var 2) (a_cons (e_callC h__law_cells hr tk rfl (a_cons (e_var 0) (a_cons (e_var 2) (a_cons e_int (a_cons (e_var 1) a_nil))))) (a_cons (e_callC h__law_cells hr tk rfl (a_cons (e_var 0) (a_cons (e_var 2) (a_cons e_int (a_cons (e_var 1) a_nil))))) (a_cons (e_callC h__law_cells hr tk rfl (a_cons (e_var 0) (a_cons (e_var 2) (a_cons e_int (a_cons (e_var 1) a_nil))))) a_nil))))))))
theorem ok__law_road {f : Addr} {fd : FuncData} {k : Nat} (B : Bn P w K mg T) (h__law_kinds : Kn ⟨P, w, K, mg, T⟩ base k "_law_kinds" (sp1 ⟨P, w, K, mg, T⟩ 2 0 F__law_kinds)) (h__law_cells : Kn ⟨P, w, K, mg, T⟩ base k "_law_cells" (sp1 ⟨P, w, K, mg, T⟩ 4 0 F__law_cells)) (Fu : Fun K "_law_road" "_law_road" s__law_road f fd) : FnOk P w K mg base (L2.CX P w) (k + 1) f fd p__law_road (sp1 ⟨P, w, K, mg, T⟩ 2 0 F__law_road) :=
  ok1 Fu c__law_road (d__law_road B h__law_kinds h__law_cells) rfl (fun _ _ _ => rfl)
abbrev s__law_word : Stmt := topS 39
abbrev N__law_word : List Str := ["items", "item"]
abbrev p__law_word : List Str := ["items"]
theorem c__law_word : FnScope N__law_word p__law_word (defScope s__law_word) := ⟨rfl, rfl, rfl, by decide +kernel, rfl, by decide +kernel, by decide +kernel⟩
def m__law_word : MS :=
  (retM (iteM (tstM (op2M neG (varM 0) (tupM []))) (joiM (conM (.str "")) (lcM (seqI (varM 0)) (.one 1) yesM (op2M ixG (biM strG [(varM 1)]) (conM (.int 0))) [1])) (conM (.str "-"))))
def F__law_word : List D → R := run0 2 m__law_word
theorem d__law_word {f : Addr} {k : Nat} (B : Bn P w K mg T) : Der P w K mg base T N__law_word "_law_word" s__law_word f k m__law_word := fun cdv A outer s H E hr hu tk po =>
  have nd : N__law_word.Nodup := c__law_word.nd; have hu4 := Nat.lt_of_succ_lt hu
  (s_one (s_ret (e_if (t_cmp (o_ne hu4) (e_var 0) (e_tup a_nil)) (e_me PySem.F.slot_str_join PySem.F.type_str_join mt_joinG e_str (a_cons (e_lc (.one 1) [("item", 1)] rfl nd (i_seq (e_var 0)) (blkOk_by (N := N__law_word) (sc := defScope s__law_word) (by decide +kernel)) (fun _ _ _ _ _ => (pg_name (i := 1) nd rfl (Or.inl rfl))) (fun _ _ _ _ _ => ts_nil) (fun _ _ _ _ _ tk => (e_ix hu (e_biT c_str B.str blt_str (a_cons (e_var 1) a_nil)) e_int)) (by decide)) a_nil)) e_str)))
theorem ok__law_word {f : Addr} {fd : FuncData} {k : Nat} (B : Bn P w K mg T) (Fu : Fun K "_law_word" "_law_word" s__law_word f fd) : FnOk P w K mg base (L2.CX P w) (k + 1) f fd p__law_word (sp0 ⟨P, w, K, mg, T⟩ 1 F__law_word) :=
  ok0 Fu c__law_word (d__law_word B) rfl (fun _ _ => rfl)
abbrev s__law_lines : Stmt := topS 40
abbrev N__law_lines : List Str := ["road", "found", "word", "part", "one", "other"]
abbrev p__law_lines : List Str := ["road"]
theorem c__law_lines : FnScope N__law_lines p__law_lines (defScope s__law_lines) := ⟨rfl, rfl, rfl, by decide +kernel, rfl, by decide +kernel, by decide +kernel⟩
def m__law_lines : MS :=
  (seqM (asgM (nlcM (seqI (op2M ixG (varM 0) (conM (.int 0)))) (.many [4, 5]) yesM (op2M addG (op2M addG (op2M addG (conM (.str "kind ")) (callM F__law_word [(varM 4)])) (conM (.str " "))) (callM F__law_word [(varM 5)])) [4, 5]) (namG 1))
    (seqM (forM (zpBI (lstM [(conM (.str "begin")), (conM (.str "round")), (conM (.str "end"))]) (slM (varM 0) (someP (conM (.int 1))) noP)) (tupG [(namG 2), (namG 3)])
    (drpM (appM (varM 1) (op2M addG (op2M addG (varM 2) (conM (.str " "))) (callM F__law_word [(varM 3)])))))
    (retM (varM 1))))
def F__law_lines : List D → R := run0 6 m__law_lines
theorem d__law_lines {f : Addr} {k : Nat} (B : Bn P w K mg T) (h__law_word : Kn ⟨P, w, K, mg, T⟩ base k "_law_word" (sp0 ⟨P, w, K, mg, T⟩ 1 F__law_word)) : Der P w K mg base T N__law_lines "_law_lines" s__law_lines f k m__law_lines := fun cdv A outer s H E hr hu tk po =>
  have nd : N__law_lines.Nodup := c__law_lines.nd; have hu4 := Nat.lt_of_succ_lt hu
  (s_cons (s_nlc 1 (.many [4, 5]) [("one", 4), ("other", 5)] rfl nd (i_seq (e_ix hu (e_var 0) e_int)) (blkOk_by (N := N__law_lines) (sc := defScope s__law_lines) (by decide +kernel)) (fun _ _ _ _ _ => (pg_tup rfl (gns_cons (pg_name (i := 4) nd rfl (Or.inl rfl)) (gns_cons (pg_name (i := 5) nd rfl (Or.inl rfl)) gns_nil)))) (fun _ _ _ _ _ => ts_nil) (fun _ _ _ _ _ tk => (e_op o_add (e_op o_add (e_op o_add e_str (e_call h__law_word hr tk rfl (a_cons (e_var 4) a_nil))) e_str) (e_call h__law_word hr tk rfl (a_cons (e_var 5) a_nil)))) (by decide) (sw_true rfl rfl rfl (by decide +kernel)))
    (s_cons (s_for po rfl (i_zip2 B.zip (a_cons (e_lst (a_cons e_str (a_cons e_str (a_cons e_str a_nil)))) (a_cons (e_sl (e_var 0) (p_some e_int) p_none) a_nil))) (g_tup rfl (gs_cons (g_nam 2 nd) (gs_cons (g_nam 3 nd) gs_nil)))
    (s_one (s_expr (e_app (e_var 1) (e_op o_add (e_op o_add (e_var 2) e_str) (e_call h__law_word hr tk rfl (a_cons (e_var 3) a_nil)))))))
    (s_one (s_ret (e_var 1)))))
theorem ok__law_lines {f : Addr} {fd : FuncData} {k : Nat} (B : Bn P w K mg T) (h__law_word : Kn ⟨P, w, K, mg, T⟩ base k "_law_word" (sp0 ⟨P, w, K, mg, T⟩ 1 F__law_word)) (Fu : Fun K "_law_lines" "_law_lines" s__law_lines f fd) : FnOk P w K mg base (L2.CX P w) (k + 1) f fd p__law_lines (sp0 ⟨P, w, K, mg, T⟩ 1 F__law_lines) :=
  ok0 Fu c__law_lines (d__law_lines B h__law_word) rfl (fun _ _ => rfl)
abbrev s_law : Stmt := topS 41
abbrev N_law : List Str := ["script", "cell", "text", "due", "sack", "turn", "road"]
abbrev p_law : List Str := ["script"]
theorem c_law : FnScope N_law p_law (defScope s_law) := ⟨rfl, rfl, rfl, by decide +kernel, rfl, by decide +kernel, by decide +kernel⟩
def m_law : MS :=
  (seqM (forM (seqI (slM (op2M addG (lstM [(conM (.int 0))]) (varM 0)) noP (someP (conM (.int 10))))) (namG 1)
    (scpM [4] (seqM (asgM (callN F__law_sack [(varM 1), (conM (.int 75))]) (namG 4))
    (forM (rng1I (conM (.int 4))) (namG 5)
    (seqM (asgM (callC 0 F__law_road [(varM 4), (conM (.int 4))]) (namG 6))
    (seqM (asgM (joiM (conM (.str "\n")) (callM F__law_lines [(varM 6)])) (namG 2))
    (seqM (ifM (orT (tstM (op2M neG (callM F_road_text [(varM 6)]) (varM 2))) (orT (tstM (op2M neG (callM F_read_road [(varM 2)]) (varM 6))) (notT (tstM (callM F_is_road [(callM F_read_road [(varM 2)])]))))) (retM (conM (.bl false))) nxtM)
    (ifM (tstM (op2M neG (callM F_cells [(callM F_read_road [(varM 2)]), (conM (.int 3))]) (op2M addG (op2M addG (op2M ixG (varM 6) (conM (.int 1))) (op2M mulG (op2M ixG (varM 6) (conM (.int 2))) (conM (.int 3)))) (op2M ixG (varM 6) (conM (.int 3)))))) (retM (conM (.bl false))) nxtM))))))))
    (seqM (asgM (conM (.str "kind lrs -\nkind - s\nbegin -\nround 01\nend 110")) (namG 2))
    (seqM (asgM (tupM [(tupM [(tupM [(tupM [(conM (.str "left")), (conM (.str "right")), (conM (.str "stay"))]), (tupM [])]), (tupM [(tupM []), (tupM [(conM (.str "stay"))])])]), (tupM []), (tupM [(conM (.int 0)), (conM (.int 1))]), (tupM [(conM (.int 1)), (conM (.int 1)), (conM (.int 0))])]) (namG 3))
    (retM (andM (op2M eqG (callM F_read_road [(varM 2)]) (varM 3)) (op2M eqG (callM F_road_text [(varM 3)]) (varM 2)))))))
def F_law : List D → R := run0 7 m_law
theorem d_law {f : Addr} {k : Nat} (B : Bn P w K mg T) (h__law_sack : Kn ⟨P, w, K, mg, T⟩ base k "_law_sack" (spN ⟨P, w, K, mg, T⟩ 2 F__law_sack)) (h__law_road : Kn ⟨P, w, K, mg, T⟩ base k "_law_road" (sp1 ⟨P, w, K, mg, T⟩ 2 0 F__law_road)) (h__law_lines : Kn ⟨P, w, K, mg, T⟩ base k "_law_lines" (sp0 ⟨P, w, K, mg, T⟩ 1 F__law_lines)) (h_road_text : Kn ⟨P, w, K, mg, T⟩ base k "road_text" (sp0 ⟨P, w, K, mg, T⟩ 1 F_road_text)) (h_read_road : Kn ⟨P, w, K, mg, T⟩ base k "read_road" (sp0 ⟨P, w, K, mg, T⟩ 1 F_read_road)) (h_is_road : Kn ⟨P, w, K, mg, T⟩ base k "is_road" (sp0 ⟨P, w, K, mg, T⟩ 1 F_is_road)) (h_cells : Kn ⟨P, w, K, mg, T⟩ base k "cells" (sp0 ⟨P, w, K, mg, T⟩ 2 F_cells)) : Der P w K mg base T N_law "law" s_law f k m_law := fun cdv A outer s H E hr hu tk po =>
  have nd : N_law.Nodup := c_law.nd; have hu4 := Nat.lt_of_succ_lt hu
  (s_cons (s_for po rfl (i_seq (e_sl (e_op o_add (e_lst (a_cons e_int a_nil)) (e_var 0)) p_none (p_some e_int))) (g_nam 1 nd)
    (s_scp [4] (s_cons (s_set 4 nd (e_callN h__law_sack hr tk rfl (a_cons (e_var 1) (a_cons e_int a_nil))))
    (s_one (s_for po rfl (i_rng1 B.range (a_cons e_int a_nil)) (g_nam 5 nd)
    (s_cons (s_set 6 nd (e_callC h__law_road hr tk rfl (a_cons (e_var 4) (a_cons e_int a_nil))))
    (s_cons (s_set 2 nd (e_me PySem.F.slot_str_join PySem.F.type_str_join mt_joinG e_str (a_cons (e_call h__law_lines hr tk rfl (a_cons (e_var 6) a_nil)) a_nil)))
    (s_cons (s_if ((w_or (t_cmp (o_ne hu4) (e_call h_road_text hr tk rfl (a_cons (e_var 6) a_nil)) (e_var 2)) (w_or (t_cmp (o_ne hu4) (e_call h_read_road hr tk rfl (a_cons (e_var 2) a_nil)) (e_var 6)) (w_or1 (t_not (t_val (e_call h_is_road hr tk rfl (a_cons (e_call h_read_road hr tk rfl (a_cons (e_var 2) a_nil)) a_nil)))))))).pt (s_one (s_ret e_bl)) s_nil)
    (s_one (s_if (t_cmp (o_ne hu4) (e_call h_cells hr tk rfl (a_cons (e_call h_read_road hr tk rfl (a_cons (e_var 2) a_nil)) (a_cons e_int a_nil))) (e_op o_add (e_op o_add (e_ix hu (e_var 6) e_int) (e_op o_mul (e_ix hu (e_var 6) e_int) e_int)) (e_ix hu (e_var 6) e_int))) (s_one (s_ret e_bl)) s_nil))))))))))
    (s_cons (s_set 2 nd e_str)
    (s_cons (s_set 3 nd (e_tup (a_cons (e_tup (a_cons (e_tup (a_cons (e_tup (a_cons e_str (a_cons e_str (a_cons e_str a_nil)))) (a_cons (e_tup a_nil) a_nil))) (a_cons (e_tup (a_cons (e_tup a_nil) (a_cons (e_tup (a_cons e_str a_nil)) a_nil))) a_nil))) (a_cons (e_tup a_nil) (a_cons (e_tup (a_cons e_int (a_cons e_int a_nil))) (a_cons (e_tup (a_cons e_int (a_cons e_int (a_cons e_int a_nil)))) a_nil))))))
    (s_one (s_ret (e_and (e_cmp (o_eq hu4) (e_call h_read_road hr tk rfl (a_cons (e_var 2) a_nil)) (e_var 3)) (e_one (e_cmp (o_eq hu4) (e_call h_road_text hr tk rfl (a_cons (e_var 3) a_nil)) (e_var 2)))))))))
theorem ok_law {f : Addr} {fd : FuncData} {k : Nat} (B : Bn P w K mg T) (h__law_sack : Kn ⟨P, w, K, mg, T⟩ base k "_law_sack" (spN ⟨P, w, K, mg, T⟩ 2 F__law_sack)) (h__law_road : Kn ⟨P, w, K, mg, T⟩ base k "_law_road" (sp1 ⟨P, w, K, mg, T⟩ 2 0 F__law_road)) (h__law_lines : Kn ⟨P, w, K, mg, T⟩ base k "_law_lines" (sp0 ⟨P, w, K, mg, T⟩ 1 F__law_lines)) (h_road_text : Kn ⟨P, w, K, mg, T⟩ base k "road_text" (sp0 ⟨P, w, K, mg, T⟩ 1 F_road_text)) (h_read_road : Kn ⟨P, w, K, mg, T⟩ base k "read_road" (sp0 ⟨P, w, K, mg, T⟩ 1 F_read_road)) (h_is_road : Kn ⟨P, w, K, mg, T⟩ base k "is_road" (sp0 ⟨P, w, K, mg, T⟩ 1 F_is_road)) (h_cells : Kn ⟨P, w, K, mg, T⟩ base k "cells" (sp0 ⟨P, w, K, mg, T⟩ 2 F_cells)) (Fu : Fun K "law" "law" s_law f fd) : FnOk P w K mg base (L2.CX P w) (k + 1) f fd p_law (sp0 ⟨P, w, K, mg, T⟩ 1 F_law) :=
  ok0 Fu c_law (d_law B h__law_sack h__law_road h__law_lines h_road_text h_read_road h_is_road h_cells) rfl (fun _ _ => rfl)
end
/-! ### what is drawn -/
def Sk (c : Cell) : Prop := ∃ a b : Int, c = .lst [.int a, .int b]
theorem log_ok {n : Nat} (h : n ≤ 8000) : n.log2 < 9000 := Nat.lt_of_le_of_lt (Nat.log2_le_self n) (by omega)
theorem sack_ok (cell salt : Int) : ∃ c, F__law_sack [.int cell, .int salt] = .ok c ∧ Sk c := by
  have h1 : Nat.log2 10 < 9000 := log_ok (by decide)
  by_cases h : 1000000000000000000 ≤ cell
  · exact ⟨.lst [.int (cell / 10 + 41 * salt), .int ((cell * 73 + 1039 * salt) % 2017504241 + 43)], by simp [F__law_sack, m__law_sack, Mir.seqM, Mir.retM, Mir.retNM, Mir.drpM, Mir.asgM, Mir.ifM, Mir.toS, Mir.namG, Mir.tupG, Mir.allG, Mir.lsuG, Mir.varM, Mir.conM, Mir.op2M, Mir.op1M, Mir.tstM, Mir.andM, Mir.orM, Mir.notM, Mir.andT, Mir.orT, Mir.notT, Mir.iteM, Mir.chM, Mir.biM, Mir.isM, Mir.callM, Mir.callC, Mir.callN, Mir.argsM, Mir.O.bind, Mir.rd, Mir.rds, Mir.pures, Mir.tupM, Mir.lstM, Mir.nlsM, Mir.slM, Mir.noP, Mir.someP, Mir.slG, Mir.lcM, Mir.nlcM, Mir.wipeE, Mir.seqI, Mir.rng1I, Mir.rng2I, Mir.zpBI, Mir.seqU, Mir.strI, Mir.forM, Mir.setM, Mir.setC, Mir.parsM, Mir.setUs, Mir.meM, Mir.joinG, Mir.splG, Mir.lenG, Mir.intG, Mir.strG, Mir.listG, Mir.tupleG, Mir.isdic, Mir.isE, Mir.ixG, Mir.addG, Mir.subG, Mir.mulG, Mir.mulOk, Mir.fdivG, Mir.modG, Mir.powG, Mir.negG, Mir.ltG, Mir.leG, Mir.gtG, Mir.geG, Mir.isG, Mir.isNotG, Mir.isNon, Mir.env0, Mir.ins1, Mir.run0, Mir.run1, Mir.runN, Mir.frz, Mir.nxtM, Mir.unM, Mir.appM, Mir.isLst, Mir.kmIx, Mir.kmIn, Mir.scpM, Mir.lowU, h, h1], _, _, rfl⟩
  · exact ⟨.lst [.int 0, .int ((cell * 73 + 1039 * salt) % 2017504241 + 43)], by simp [F__law_sack, m__law_sack, Mir.seqM, Mir.retM, Mir.retNM, Mir.drpM, Mir.asgM, Mir.ifM, Mir.toS, Mir.namG, Mir.tupG, Mir.allG, Mir.lsuG, Mir.varM, Mir.conM, Mir.op2M, Mir.op1M, Mir.tstM, Mir.andM, Mir.orM, Mir.notM, Mir.andT, Mir.orT, Mir.notT, Mir.iteM, Mir.chM, Mir.biM, Mir.isM, Mir.callM, Mir.callC, Mir.callN, Mir.argsM, Mir.O.bind, Mir.rd, Mir.rds, Mir.pures, Mir.tupM, Mir.lstM, Mir.nlsM, Mir.slM, Mir.noP, Mir.someP, Mir.slG, Mir.lcM, Mir.nlcM, Mir.wipeE, Mir.seqI, Mir.rng1I, Mir.rng2I, Mir.zpBI, Mir.seqU, Mir.strI, Mir.forM, Mir.setM, Mir.setC, Mir.parsM, Mir.setUs, Mir.meM, Mir.joinG, Mir.splG, Mir.lenG, Mir.intG, Mir.strG, Mir.listG, Mir.tupleG, Mir.isdic, Mir.isE, Mir.ixG, Mir.addG, Mir.subG, Mir.mulG, Mir.mulOk, Mir.fdivG, Mir.modG, Mir.powG, Mir.negG, Mir.ltG, Mir.leG, Mir.gtG, Mir.geG, Mir.isG, Mir.isNotG, Mir.isNon, Mir.env0, Mir.ins1, Mir.run0, Mir.run1, Mir.runN, Mir.frz, Mir.nxtM, Mir.unM, Mir.appM, Mir.isLst, Mir.kmIx, Mir.kmIn, Mir.scpM, Mir.lowU, h, h1], _, _, rfl⟩
theorem grip_ok {c : Cell} (hc : Sk c) {many : Int} (hm : 0 < many) (hl : many ≤ 8000 ∨ many.natAbs.log2 < 9000) : ∃ r c', F__law_grip [.int many] c = .ok (.int r) c' ∧ Sk c' ∧ 0 ≤ r ∧ r < many := by
  obtain ⟨a, b, rfl⟩ := hc
  have hl : many.natAbs.log2 < 9000 := by
    rcases hl with h | h
    · exact log_ok (by omega)
    · exact h
  by_cases h : 0 < a
  · refine ⟨a % many, .lst [.int (a / many), .int b], ?_, ⟨_, _, rfl⟩, Int.emod_nonneg _ (by omega), Int.emod_lt_of_pos _ hm⟩
    simp [F__law_grip, m__law_grip, Mir.seqM, Mir.retM, Mir.retNM, Mir.drpM, Mir.asgM, Mir.ifM, Mir.toS, Mir.namG, Mir.tupG, Mir.allG, Mir.lsuG, Mir.varM, Mir.conM, Mir.op2M, Mir.op1M, Mir.tstM, Mir.andM, Mir.orM, Mir.notM, Mir.andT, Mir.orT, Mir.notT, Mir.iteM, Mir.chM, Mir.biM, Mir.isM, Mir.callM, Mir.callC, Mir.callN, Mir.argsM, Mir.O.bind, Mir.rd, Mir.rds, Mir.pures, Mir.tupM, Mir.lstM, Mir.nlsM, Mir.slM, Mir.noP, Mir.someP, Mir.slG, Mir.lcM, Mir.nlcM, Mir.wipeE, Mir.seqI, Mir.rng1I, Mir.rng2I, Mir.zpBI, Mir.seqU, Mir.strI, Mir.forM, Mir.setM, Mir.setC, Mir.parsM, Mir.setUs, Mir.meM, Mir.joinG, Mir.splG, Mir.lenG, Mir.intG, Mir.strG, Mir.listG, Mir.tupleG, Mir.isdic, Mir.isE, Mir.ixG, Mir.addG, Mir.subG, Mir.mulG, Mir.mulOk, Mir.fdivG, Mir.modG, Mir.powG, Mir.negG, Mir.ltG, Mir.leG, Mir.gtG, Mir.geG, Mir.isG, Mir.isNotG, Mir.isNon, Mir.env0, Mir.ins1, Mir.run0, Mir.run1, Mir.runN, Mir.frz, Mir.nxtM, Mir.unM, Mir.appM, Mir.isLst, Mir.kmIx, Mir.kmIn, Mir.scpM, Mir.lowU, L2.atI, L2.ixN, h, hm, hl]
  · have hb : 0 ≤ (b * 35023 + 9001) % 2147483549 ∧ (b * 35023 + 9001) % 2147483549 < 2147483549 := ⟨Int.emod_nonneg _ (by omega), Int.emod_lt_of_pos _ (by omega)⟩
    generalize hc : (b * 35023 + 9001) % 2147483549 = c at hb
    refine ⟨(c * (c + 79) % 2147483587) / 593 % many, .lst [.int a, .int c], ?_, ⟨_, _, rfl⟩, Int.emod_nonneg _ (by omega), Int.emod_lt_of_pos _ hm⟩
    have h1 : (-18446744073709551616 : Int) < c := by omega
    have h2 : c < 18446744073709551616 := by omega
    have h3 : Nat.log2 593 < 9000 := by decide
    simp [F__law_grip, m__law_grip, Mir.seqM, Mir.retM, Mir.retNM, Mir.drpM, Mir.asgM, Mir.ifM, Mir.toS, Mir.namG, Mir.tupG, Mir.allG, Mir.lsuG, Mir.varM, Mir.conM, Mir.op2M, Mir.op1M, Mir.tstM, Mir.andM, Mir.orM, Mir.notM, Mir.andT, Mir.orT, Mir.notT, Mir.iteM, Mir.chM, Mir.biM, Mir.isM, Mir.callM, Mir.callC, Mir.callN, Mir.argsM, Mir.O.bind, Mir.rd, Mir.rds, Mir.pures, Mir.tupM, Mir.lstM, Mir.nlsM, Mir.slM, Mir.noP, Mir.someP, Mir.slG, Mir.lcM, Mir.nlcM, Mir.wipeE, Mir.seqI, Mir.rng1I, Mir.rng2I, Mir.zpBI, Mir.seqU, Mir.strI, Mir.forM, Mir.setM, Mir.setC, Mir.parsM, Mir.setUs, Mir.meM, Mir.joinG, Mir.splG, Mir.lenG, Mir.intG, Mir.strG, Mir.listG, Mir.tupleG, Mir.isdic, Mir.isE, Mir.ixG, Mir.addG, Mir.subG, Mir.mulG, Mir.mulOk, Mir.fdivG, Mir.modG, Mir.powG, Mir.negG, Mir.ltG, Mir.leG, Mir.gtG, Mir.geG, Mir.isG, Mir.isNotG, Mir.isNon, Mir.env0, Mir.ins1, Mir.run0, Mir.run1, Mir.runN, Mir.frz, Mir.nxtM, Mir.unM, Mir.appM, Mir.isLst, Mir.kmIx, Mir.kmIn, Mir.scpM, Mir.lowU, L2.atI, L2.ixN, h, hm, hl, hc, h1, h2, h3]
theorem atI_ok {α : Type} {xs : List α} {r : Int} (h0 : 0 ≤ r) (h1 : r < xs.length) : ∃ d, L2.atI xs r = some d ∧ d ∈ xs := by
  have hr : r = ((r.toNat : Nat) : Int) := by omega
  have hl : r.toNat < xs.length := by omega
  rw [hr]
  exact ⟨xs[r.toNat], atI_nat (List.getElem?_eq_getElem hl), List.getElem_mem hl⟩
theorem pick_ok {c : Cell} (hc : Sk c) {xs : List D} (hx : xs ≠ []) (hl : xs.length ≤ 1000) : ∃ d c', F__law_pick [.lst xs] c = .ok d c' ∧ Sk c' ∧ d ∈ xs := by
  have hp : 0 < xs.length := List.length_pos_iff.mpr hx
  obtain ⟨r, c', h1, h2, h3, h4⟩ := grip_ok hc (many := (xs.length : Int)) (by omega) (.inl (by omega))
  obtain ⟨d, h5, h6⟩ := atI_ok h3 h4
  refine ⟨d, c', ?_, h2, h6⟩
  simp [F__law_pick, m__law_pick, Mir.seqM, Mir.retM, Mir.retNM, Mir.drpM, Mir.asgM, Mir.ifM, Mir.toS, Mir.namG, Mir.tupG, Mir.allG, Mir.lsuG, Mir.varM, Mir.conM, Mir.op2M, Mir.op1M, Mir.tstM, Mir.andM, Mir.orM, Mir.notM, Mir.andT, Mir.orT, Mir.notT, Mir.iteM, Mir.chM, Mir.biM, Mir.isM, Mir.callM, Mir.callC, Mir.callN, Mir.argsM, Mir.O.bind, Mir.rd, Mir.rds, Mir.pures, Mir.tupM, Mir.lstM, Mir.nlsM, Mir.slM, Mir.noP, Mir.someP, Mir.slG, Mir.lcM, Mir.nlcM, Mir.wipeE, Mir.seqI, Mir.rng1I, Mir.rng2I, Mir.zpBI, Mir.seqU, Mir.strI, Mir.forM, Mir.setM, Mir.setC, Mir.parsM, Mir.setUs, Mir.meM, Mir.joinG, Mir.splG, Mir.lenG, Mir.intG, Mir.strG, Mir.listG, Mir.tupleG, Mir.isdic, Mir.isE, Mir.ixG, Mir.addG, Mir.subG, Mir.mulG, Mir.mulOk, Mir.fdivG, Mir.modG, Mir.powG, Mir.negG, Mir.ltG, Mir.leG, Mir.gtG, Mir.geG, Mir.isG, Mir.isNotG, Mir.isNon, Mir.env0, Mir.ins1, Mir.run0, Mir.run1, Mir.runN, Mir.frz, Mir.nxtM, Mir.unM, Mir.appM, Mir.isLst, Mir.kmIx, Mir.kmIn, Mir.scpM, Mir.lowU, h1, h5]
def Lf : D := .str "left"
def Rt : D := .str "right"
def St' : D := .str "stay"
/-- the ways that are drawn -/
def opts : List D := [.tup [], .tup [Lf], .tup [Rt], .tup [St'], .tup [Lf, Rt], .tup [Lf, St'], .tup [Rt, St'], .tup [Lf, Rt, St']]
theorem ways_ok {c : Cell} (hc : Sk c) : ∃ d c', F__law_ways [] c = .ok d c' ∧ Sk c' ∧ d ∈ opts := by
  obtain ⟨d, c', h1, h2, h3⟩ := pick_ok hc (xs := [.tup [], .tup [Lf], .tup [Rt], .tup [Lf], .tup [Rt], .tup [St'], .tup [Lf, Rt], .tup [Lf, St'], .tup [Rt, St'], .tup [Lf, Rt], .tup [Lf, Rt, St'], .tup [Rt]]) (by simp) (by decide)
  refine ⟨d, c', ?_, h2, ?_⟩
  · unfold Lf Rt St' at h1
    simp [F__law_ways, m__law_ways, Mir.seqM, Mir.retM, Mir.retNM, Mir.drpM, Mir.asgM, Mir.ifM, Mir.toS, Mir.namG, Mir.tupG, Mir.allG, Mir.lsuG, Mir.varM, Mir.conM, Mir.op2M, Mir.op1M, Mir.tstM, Mir.andM, Mir.orM, Mir.notM, Mir.andT, Mir.orT, Mir.notT, Mir.iteM, Mir.chM, Mir.biM, Mir.isM, Mir.callM, Mir.callC, Mir.callN, Mir.argsM, Mir.O.bind, Mir.rd, Mir.rds, Mir.pures, Mir.tupM, Mir.lstM, Mir.nlsM, Mir.slM, Mir.noP, Mir.someP, Mir.slG, Mir.lcM, Mir.nlcM, Mir.wipeE, Mir.seqI, Mir.rng1I, Mir.rng2I, Mir.zpBI, Mir.seqU, Mir.strI, Mir.forM, Mir.setM, Mir.setC, Mir.parsM, Mir.setUs, Mir.meM, Mir.joinG, Mir.splG, Mir.lenG, Mir.intG, Mir.strG, Mir.listG, Mir.tupleG, Mir.isdic, Mir.isE, Mir.ixG, Mir.addG, Mir.subG, Mir.mulG, Mir.mulOk, Mir.fdivG, Mir.modG, Mir.powG, Mir.negG, Mir.ltG, Mir.leG, Mir.gtG, Mir.geG, Mir.isG, Mir.isNotG, Mir.isNon, Mir.env0, Mir.ins1, Mir.run0, Mir.run1, Mir.runN, Mir.frz, Mir.nxtM, Mir.unM, Mir.appM, Mir.isLst, Mir.kmIx, Mir.kmIn, Mir.scpM, Mir.lowU, h1, big]
  · simp [opts] at h3 ⊢
    rcases h3 with h | h | h | h | h | h | h | h | h | h | h | h <;> simp [h]

/-! ### roads that are drawn -/
def kD (k : D × D) : D := .tup [k.1, k.2]
theorem kinds_ok {c : Cell} (hc : Sk c) : ∃ (ks : List (D × D)) (c' : Cell), F__law_kinds [.int 4] c = .ok (.tup (ks.map kD)) c' ∧ Sk c' ∧ 1 ≤ ks.length ∧ ks.length ≤ 4 ∧ ∀ k ∈ ks, k.1 ∈ opts ∧ k.2 ∈ opts := by
  obtain ⟨r, c1, h1, h2, h3, h4⟩ := grip_ok hc (many := 4) (by omega) (.inl (by omega))
  have hr : 1 + r ≤ 1000000 ∧ -1000000 ≤ 1 + r := by omega
  obtain ⟨ys, S', h5, h6, h7, h8⟩ := lcL_inv (tg := .one 2) (t := yesM) (f := (tupM [(callC 0 F__law_ways [(varM 0)]), (callC 0 F__law_ways [(varM 0)])])) (ρ0 := [some (.c 0), some (.d (.int 4)), none])
    (fun S => ∃ c, S = [c] ∧ Sk c) (fun y => ∃ k : D × D, y = kD k ∧ k.1 ∈ opts ∧ k.2 ∈ opts) ((List.range (1 + r).toNat).map fun i => .int (0 + (i : Nat))) [c1] (fun d hd S ⟨c, e, hs⟩ => by
      subst e
      obtain ⟨w1, c2, g1, g2, g3⟩ := ways_ok hs
      obtain ⟨w2, c3, g4, g5, g6⟩ := ways_ok g2
      refine ⟨[some (.c 0), some (.d (.int 4)), some (.d d)], [c], .tup [w1, w2], [c3], rfl, rfl, ?_, ⟨c3, rfl, g5⟩, (w1, w2), rfl, g3, g6⟩
      simp [Mir.seqM, Mir.retM, Mir.retNM, Mir.drpM, Mir.asgM, Mir.ifM, Mir.toS, Mir.namG, Mir.tupG, Mir.allG, Mir.lsuG, Mir.varM, Mir.conM, Mir.op2M, Mir.op1M, Mir.tstM, Mir.andM, Mir.orM, Mir.notM, Mir.andT, Mir.orT, Mir.notT, Mir.iteM, Mir.chM, Mir.biM, Mir.isM, Mir.callM, Mir.callC, Mir.callN, Mir.argsM, Mir.O.bind, Mir.rd, Mir.rds, Mir.pures, Mir.tupM, Mir.lstM, Mir.nlsM, Mir.slM, Mir.noP, Mir.someP, Mir.slG, Mir.lcM, Mir.nlcM, Mir.wipeE, Mir.seqI, Mir.rng1I, Mir.rng2I, Mir.zpBI, Mir.seqU, Mir.strI, Mir.forM, Mir.setM, Mir.setC, Mir.parsM, Mir.setUs, Mir.meM, Mir.joinG, Mir.splG, Mir.lenG, Mir.intG, Mir.strG, Mir.listG, Mir.tupleG, Mir.isdic, Mir.isE, Mir.ixG, Mir.addG, Mir.subG, Mir.mulG, Mir.mulOk, Mir.fdivG, Mir.modG, Mir.powG, Mir.negG, Mir.ltG, Mir.leG, Mir.gtG, Mir.geG, Mir.isG, Mir.isNotG, Mir.isNon, Mir.env0, Mir.ins1, Mir.run0, Mir.run1, Mir.runN, Mir.frz, Mir.nxtM, Mir.unM, Mir.appM, Mir.isLst, Mir.kmIx, Mir.kmIn, Mir.scpM, Mir.lowU, g1, g4]) ⟨c1, rfl, h2⟩
  obtain ⟨c', rfl, hs'⟩ := h6
  have hys : ∃ ks : List (D × D), ys = ks.map kD ∧ ∀ k ∈ ks, k.1 ∈ opts ∧ k.2 ∈ opts := by
    clear h5 h7
    induction ys with
    | nil => exact ⟨[], rfl, fun _ z => by cases z⟩
    | cons y ys ih =>
      obtain ⟨ks, e1, e2⟩ := ih fun z hz => h8 z (List.mem_cons_of_mem _ hz)
      obtain ⟨k, e3, e4⟩ := h8 y List.mem_cons_self
      exact ⟨k :: ks, by rw [e1, e3]; rfl, fun z hz => by
        rcases List.mem_cons.mp hz with q | q
        · rw [q]; exact e4
        · exact e2 z q⟩
  obtain ⟨ks, rfl, hks⟩ := hys
  have hl : ks.length = (1 + r).toNat := by simpa using h7
  refine ⟨ks, c', ?_, hs', by omega, by omega, hks⟩
  have hb : (1 + r).toNat ≤ big := by unfold big; omega
  simp [F__law_kinds, m__law_kinds, Mir.seqM, Mir.retM, Mir.retNM, Mir.drpM, Mir.asgM, Mir.ifM, Mir.toS, Mir.namG, Mir.tupG, Mir.allG, Mir.lsuG, Mir.varM, Mir.conM, Mir.op2M, Mir.op1M, Mir.tstM, Mir.andM, Mir.orM, Mir.notM, Mir.andT, Mir.orT, Mir.notT, Mir.iteM, Mir.chM, Mir.biM, Mir.isM, Mir.callM, Mir.callC, Mir.callN, Mir.argsM, Mir.O.bind, Mir.rd, Mir.rds, Mir.pures, Mir.tupM, Mir.lstM, Mir.nlsM, Mir.slM, Mir.noP, Mir.someP, Mir.slG, Mir.lcM, Mir.nlcM, Mir.wipeE, Mir.seqI, Mir.rng1I, Mir.rng2I, Mir.zpBI, Mir.seqU, Mir.strI, Mir.forM, Mir.setM, Mir.setC, Mir.parsM, Mir.setUs, Mir.meM, Mir.joinG, Mir.splG, Mir.lenG, Mir.intG, Mir.strG, Mir.listG, Mir.tupleG, Mir.isdic, Mir.isE, Mir.ixG, Mir.addG, Mir.subG, Mir.mulG, Mir.mulOk, Mir.fdivG, Mir.modG, Mir.powG, Mir.negG, Mir.ltG, Mir.leG, Mir.gtG, Mir.geG, Mir.isG, Mir.isNotG, Mir.isNon, Mir.env0, Mir.ins1, Mir.run0, Mir.run1, Mir.runN, Mir.frz, Mir.nxtM, Mir.unM, Mir.appM, Mir.isLst, Mir.kmIx, Mir.kmIn, Mir.scpM, Mir.lowU, h1, hr, hb] at h5 ⊢
  rw [h5]
  rfl
theorem ints_of {Q : Int → Prop} : ∀ {ys : List D}, (∀ y ∈ ys, ∃ i, y = .int i ∧ Q i) → ∃ cs : List Int, ys = cs.map D.int ∧ ∀ i ∈ cs, Q i
  | [], _ => ⟨[], rfl, fun _ z => by cases z⟩
  | y :: ys, h => by
    obtain ⟨i, rfl, h1⟩ := h y List.mem_cons_self
    obtain ⟨cs, rfl, h2⟩ := ints_of fun z hz => h z (List.mem_cons_of_mem _ hz)
    exact ⟨i :: cs, rfl, fun j hj => by
      rcases List.mem_cons.mp hj with q | q
      · rw [q]; exact h1
      · exact h2 j q⟩
theorem cells_ok {c : Cell} (hc : Sk c) {kinds : List D} {least most : Int} (hk : 1 ≤ kinds.length) (hk4 : kinds.length ≤ 4) (h0 : 0 ≤ least) (hlm : least ≤ most) (hm : most ≤ 1000) :
    ∃ (cs : List Int) (c' : Cell), F__law_cells [.tup kinds, .int least, .int most] c = .ok (.tup (cs.map D.int)) c' ∧ Sk c' ∧ least ≤ cs.length ∧ cs.length ≤ most ∧ ∀ i ∈ cs, 0 ≤ i ∧ i < kinds.length := by
  obtain ⟨r, c1, h1, h2, h3, h4⟩ := grip_ok hc (many := most - least + 1) (by omega) (.inl (by omega))
  have hr : least + r ≤ 1000000 ∧ -1000000 ≤ least + r := by omega
  obtain ⟨ys, S', h5, h6, h7, h8⟩ := lcL_inv (tg := .one 4) (t := yesM) (f := (callC 0 F__law_grip [(varM 0), (biM lenG [(varM 1)])])) (ρ0 := [some (.c 0), some (.d (.tup kinds)), some (.d (.int least)), some (.d (.int most)), none])
    (fun S => ∃ c, S = [c] ∧ Sk c) (fun y => ∃ i : Int, y = .int i ∧ 0 ≤ i ∧ i < kinds.length) ((List.range (least + r).toNat).map fun i => .int (0 + (i : Nat))) [c1] (fun d hd S ⟨c, e, hs⟩ => by
      subst e
      obtain ⟨i, c2, g1, g2, g3, g4⟩ := grip_ok hs (many := (kinds.length : Int)) (by omega) (.inl (by omega))
      refine ⟨[some (.c 0), some (.d (.tup kinds)), some (.d (.int least)), some (.d (.int most)), some (.d d)], [c], .int i, [c2], rfl, rfl, ?_, ⟨c2, rfl, g2⟩, i, rfl, g3, g4⟩
      simp [Mir.seqM, Mir.retM, Mir.retNM, Mir.drpM, Mir.asgM, Mir.ifM, Mir.toS, Mir.namG, Mir.tupG, Mir.allG, Mir.lsuG, Mir.varM, Mir.conM, Mir.op2M, Mir.op1M, Mir.tstM, Mir.andM, Mir.orM, Mir.notM, Mir.andT, Mir.orT, Mir.notT, Mir.iteM, Mir.chM, Mir.biM, Mir.isM, Mir.callM, Mir.callC, Mir.callN, Mir.argsM, Mir.O.bind, Mir.rd, Mir.rds, Mir.pures, Mir.tupM, Mir.lstM, Mir.nlsM, Mir.slM, Mir.noP, Mir.someP, Mir.slG, Mir.lcM, Mir.nlcM, Mir.wipeE, Mir.seqI, Mir.rng1I, Mir.rng2I, Mir.zpBI, Mir.seqU, Mir.strI, Mir.forM, Mir.setM, Mir.setC, Mir.parsM, Mir.setUs, Mir.meM, Mir.joinG, Mir.splG, Mir.lenG, Mir.intG, Mir.strG, Mir.listG, Mir.tupleG, Mir.isdic, Mir.isE, Mir.ixG, Mir.addG, Mir.subG, Mir.mulG, Mir.mulOk, Mir.fdivG, Mir.modG, Mir.powG, Mir.negG, Mir.ltG, Mir.leG, Mir.gtG, Mir.geG, Mir.isG, Mir.isNotG, Mir.isNon, Mir.env0, Mir.ins1, Mir.run0, Mir.run1, Mir.runN, Mir.frz, Mir.nxtM, Mir.unM, Mir.appM, Mir.isLst, Mir.kmIx, Mir.kmIn, Mir.scpM, Mir.lowU, g1]) ⟨c1, rfl, h2⟩
  obtain ⟨c', rfl, hs'⟩ := h6
  obtain ⟨cs, rfl, hcs⟩ := ints_of h8
  have hl : cs.length = (least + r).toNat := by simpa using h7
  refine ⟨cs, c', ?_, hs', by omega, by omega, hcs⟩
  have hb : (least + r).toNat ≤ big := by unfold big; omega
  simp [F__law_cells, m__law_cells, Mir.seqM, Mir.retM, Mir.retNM, Mir.drpM, Mir.asgM, Mir.ifM, Mir.toS, Mir.namG, Mir.tupG, Mir.allG, Mir.lsuG, Mir.varM, Mir.conM, Mir.op2M, Mir.op1M, Mir.tstM, Mir.andM, Mir.orM, Mir.notM, Mir.andT, Mir.orT, Mir.notT, Mir.iteM, Mir.chM, Mir.biM, Mir.isM, Mir.callM, Mir.callC, Mir.callN, Mir.argsM, Mir.O.bind, Mir.rd, Mir.rds, Mir.pures, Mir.tupM, Mir.lstM, Mir.nlsM, Mir.slM, Mir.noP, Mir.someP, Mir.slG, Mir.lcM, Mir.nlcM, Mir.wipeE, Mir.seqI, Mir.rng1I, Mir.rng2I, Mir.zpBI, Mir.seqU, Mir.strI, Mir.forM, Mir.setM, Mir.setC, Mir.parsM, Mir.setUs, Mir.meM, Mir.joinG, Mir.splG, Mir.lenG, Mir.intG, Mir.strG, Mir.listG, Mir.tupleG, Mir.isdic, Mir.isE, Mir.ixG, Mir.addG, Mir.subG, Mir.mulG, Mir.mulOk, Mir.fdivG, Mir.modG, Mir.powG, Mir.negG, Mir.ltG, Mir.leG, Mir.gtG, Mir.geG, Mir.isG, Mir.isNotG, Mir.isNon, Mir.env0, Mir.ins1, Mir.run0, Mir.run1, Mir.runN, Mir.frz, Mir.nxtM, Mir.unM, Mir.appM, Mir.isLst, Mir.kmIx, Mir.kmIn, Mir.scpM, Mir.lowU, h1, hr, hb] at h5 ⊢
  rw [h5]
  rfl
/-- a road that is drawn: its kinds, its cells -/
structure Road (ks : List (D × D)) (b r e : List Int) (most : Nat) : Prop where
  k1 : 1 ≤ ks.length
  k4 : ks.length ≤ 4
  ko : ∀ k ∈ ks, k.1 ∈ opts ∧ k.2 ∈ opts
  bl : b.length ≤ most
  bi : ∀ i ∈ b, 0 ≤ i ∧ i < ks.length
  r1 : 1 ≤ r.length
  rl : r.length ≤ most
  ri : ∀ i ∈ r, 0 ≤ i ∧ i < ks.length
  el : e.length ≤ most
  ei : ∀ i ∈ e, 0 ≤ i ∧ i < ks.length
def ptD (b : List Int) : D := .tup (b.map D.int)
def ksD (ks : List (D × D)) : D := .tup (ks.map kD)
def roadD (ks : List (D × D)) (b r e : List Int) : D := .tup [ksD ks, ptD b, ptD r, ptD e]
theorem road_ok {c : Cell} (hc : Sk c) {most : Nat} (h1 : 1 ≤ most) (h2 : most ≤ 1000) : ∃ (ks : List (D × D)) (b r e : List Int) (c' : Cell), F__law_road [.int most] c = .ok (roadD ks b r e) c' ∧ Sk c' ∧ Road ks b r e most := by
  obtain ⟨ks, c1, a1, a2, a3, a4, a5⟩ := kinds_ok hc
  obtain ⟨b, c2, b1, b2, b3, b4, b5⟩ := cells_ok a2 (kinds := ks.map kD) (least := 0) (most := most) (by simpa using a3) (by simpa using a4) (by omega) (by omega) (by omega)
  obtain ⟨r, c3, r1, r2, r3, r4, r5⟩ := cells_ok b2 (kinds := ks.map kD) (least := 1) (most := most) (by simpa using a3) (by simpa using a4) (by omega) (by omega) (by omega)
  obtain ⟨e, c4, e1, e2, e3, e4, e5⟩ := cells_ok r2 (kinds := ks.map kD) (least := 0) (most := most) (by simpa using a3) (by simpa using a4) (by omega) (by omega) (by omega)
  refine ⟨ks, b, r, e, c4, ?_, e2, ⟨a3, a4, a5, by omega, by simpa using b5, by omega, by omega, by simpa using r5, by omega, by simpa using e5⟩⟩
  simp [F__law_road, m__law_road, Mir.seqM, Mir.retM, Mir.retNM, Mir.drpM, Mir.asgM, Mir.ifM, Mir.toS, Mir.namG, Mir.tupG, Mir.allG, Mir.lsuG, Mir.varM, Mir.conM, Mir.op2M, Mir.op1M, Mir.tstM, Mir.andM, Mir.orM, Mir.notM, Mir.andT, Mir.orT, Mir.notT, Mir.iteM, Mir.chM, Mir.biM, Mir.isM, Mir.callM, Mir.callC, Mir.callN, Mir.argsM, Mir.O.bind, Mir.rd, Mir.rds, Mir.pures, Mir.tupM, Mir.lstM, Mir.nlsM, Mir.slM, Mir.noP, Mir.someP, Mir.slG, Mir.lcM, Mir.nlcM, Mir.wipeE, Mir.seqI, Mir.rng1I, Mir.rng2I, Mir.zpBI, Mir.seqU, Mir.strI, Mir.forM, Mir.setM, Mir.setC, Mir.parsM, Mir.setUs, Mir.meM, Mir.joinG, Mir.splG, Mir.lenG, Mir.intG, Mir.strG, Mir.listG, Mir.tupleG, Mir.isdic, Mir.isE, Mir.ixG, Mir.addG, Mir.subG, Mir.mulG, Mir.mulOk, Mir.fdivG, Mir.modG, Mir.powG, Mir.negG, Mir.ltG, Mir.leG, Mir.gtG, Mir.geG, Mir.isG, Mir.isNotG, Mir.isNon, Mir.env0, Mir.ins1, Mir.run0, Mir.run1, Mir.runN, Mir.frz, Mir.nxtM, Mir.unM, Mir.appM, Mir.isLst, Mir.kmIx, Mir.kmIn, Mir.scpM, Mir.lowU, a1, b1, r1, e1, roadD, ksD, ptD]
/-! ### such a road is one -/
theorem isnum_ok {i lo hi : Int} (h : lo ≤ i ∧ i ≤ hi) : F_is_number [.int i, .int lo, .int hi] = .ok (.bl true) := by
  simp [F_is_number, m_is_number, Mir.seqM, Mir.retM, Mir.retNM, Mir.drpM, Mir.asgM, Mir.ifM, Mir.toS, Mir.namG, Mir.tupG, Mir.allG, Mir.lsuG, Mir.varM, Mir.conM, Mir.op2M, Mir.op1M, Mir.tstM, Mir.andM, Mir.orM, Mir.notM, Mir.andT, Mir.orT, Mir.notT, Mir.iteM, Mir.chM, Mir.biM, Mir.isM, Mir.callM, Mir.callC, Mir.callN, Mir.argsM, Mir.O.bind, Mir.rd, Mir.rds, Mir.pures, Mir.tupM, Mir.lstM, Mir.nlsM, Mir.slM, Mir.noP, Mir.someP, Mir.slG, Mir.lcM, Mir.nlcM, Mir.wipeE, Mir.seqI, Mir.rng1I, Mir.rng2I, Mir.zpBI, Mir.seqU, Mir.strI, Mir.forM, Mir.setM, Mir.setC, Mir.parsM, Mir.setUs, Mir.meM, Mir.joinG, Mir.splG, Mir.lenG, Mir.intG, Mir.strG, Mir.listG, Mir.tupleG, Mir.isdic, Mir.isE, Mir.ixG, Mir.addG, Mir.subG, Mir.mulG, Mir.mulOk, Mir.fdivG, Mir.modG, Mir.powG, Mir.negG, Mir.ltG, Mir.leG, Mir.gtG, Mir.geG, Mir.isG, Mir.isNotG, Mir.isNon, Mir.env0, Mir.ins1, Mir.run0, Mir.run1, Mir.runN, Mir.frz, Mir.nxtM, Mir.unM, Mir.appM, Mir.isLst, Mir.kmIx, Mir.kmIn, Mir.scpM, Mir.lowU, h.1, h.2]
theorem kind_chk : (opts.all fun a => opts.all fun b => isBl (F_is_kind [kD (a, b)]) true) = true := by decide +kernel
theorem kind_ok {k : D × D} (h : k.1 ∈ opts ∧ k.2 ∈ opts) : F_is_kind [kD k] = .ok (.bl true) :=
  isBl_eq (List.all_eq_true.mp (List.all_eq_true.mp kind_chk k.1 h.1) k.2 h.2)
theorem bls_true : ∀ {ds : List D}, blsOf (ds.map fun _ => D.bl true) = some (ds.map fun _ => true)
  | [] => rfl
  | d :: ds => by simp [blsOf, bls_true (ds := ds)]
theorem all_true {ds : List D} : Mir.allB [.lst (ds.map fun _ => D.bl true)] = some (.bl true) := by
  simp [Mir.allB, bls_true]
theorem kinds_are {ks : List (D × D)} (h1 : 1 ≤ ks.length) (h4 : ks.length ≤ 4) (ho : ∀ k ∈ ks, k.1 ∈ opts ∧ k.2 ∈ opts) : F_are_kinds [ksD ks] = .ok (.bl true) := by
  have hL := lcL_pure (tg := .one 1) (t := yesM) (f := (callM F_is_kind [(varM 1)])) (ρ0 := [some (.d (ksD ks)), none]) (S := []) (fun _ => D.bl true) (ks.map kD) fun d hd => by
    obtain ⟨k, hk, rfl⟩ := List.mem_map.mp hd
    refine ⟨[some (.d (ksD ks)), some (.d (kD k))], rfl, rfl, ?_⟩
    simp [Mir.seqM, Mir.retM, Mir.retNM, Mir.drpM, Mir.asgM, Mir.ifM, Mir.toS, Mir.namG, Mir.tupG, Mir.allG, Mir.lsuG, Mir.varM, Mir.conM, Mir.op2M, Mir.op1M, Mir.tstM, Mir.andM, Mir.orM, Mir.notM, Mir.andT, Mir.orT, Mir.notT, Mir.iteM, Mir.chM, Mir.biM, Mir.isM, Mir.callM, Mir.callC, Mir.callN, Mir.argsM, Mir.O.bind, Mir.rd, Mir.rds, Mir.pures, Mir.tupM, Mir.lstM, Mir.nlsM, Mir.slM, Mir.noP, Mir.someP, Mir.slG, Mir.lcM, Mir.nlcM, Mir.wipeE, Mir.seqI, Mir.rng1I, Mir.rng2I, Mir.zpBI, Mir.seqU, Mir.strI, Mir.forM, Mir.setM, Mir.setC, Mir.parsM, Mir.setUs, Mir.meM, Mir.joinG, Mir.splG, Mir.lenG, Mir.intG, Mir.strG, Mir.listG, Mir.tupleG, Mir.isdic, Mir.isE, Mir.ixG, Mir.addG, Mir.subG, Mir.mulG, Mir.mulOk, Mir.fdivG, Mir.modG, Mir.powG, Mir.negG, Mir.ltG, Mir.leG, Mir.gtG, Mir.geG, Mir.isG, Mir.isNotG, Mir.isNon, Mir.env0, Mir.ins1, Mir.run0, Mir.run1, Mir.runN, Mir.frz, Mir.nxtM, Mir.unM, Mir.appM, Mir.isLst, Mir.kmIx, Mir.kmIn, Mir.scpM, Mir.lowU, kind_ok (ho k hk)]
  have hb : ks.length ≤ big := by unfold big; omega
  unfold ksD at hL
  have e1 : (1 : Int) ≤ (ks.length : Int) := by omega
  have e2 : (ks.length : Int) ≤ 4 := by omega
  simp [F_are_kinds, m_are_kinds, Mir.seqM, Mir.retM, Mir.retNM, Mir.drpM, Mir.asgM, Mir.ifM, Mir.toS, Mir.namG, Mir.tupG, Mir.allG, Mir.lsuG, Mir.varM, Mir.conM, Mir.op2M, Mir.op1M, Mir.tstM, Mir.andM, Mir.orM, Mir.notM, Mir.andT, Mir.orT, Mir.notT, Mir.iteM, Mir.chM, Mir.biM, Mir.isM, Mir.callM, Mir.callC, Mir.callN, Mir.argsM, Mir.O.bind, Mir.rd, Mir.rds, Mir.pures, Mir.tupM, Mir.lstM, Mir.nlsM, Mir.slM, Mir.noP, Mir.someP, Mir.slG, Mir.lcM, Mir.nlcM, Mir.wipeE, Mir.seqI, Mir.rng1I, Mir.rng2I, Mir.zpBI, Mir.seqU, Mir.strI, Mir.forM, Mir.setM, Mir.setC, Mir.parsM, Mir.setUs, Mir.meM, Mir.joinG, Mir.splG, Mir.lenG, Mir.intG, Mir.strG, Mir.listG, Mir.tupleG, Mir.isdic, Mir.isE, Mir.ixG, Mir.addG, Mir.subG, Mir.mulG, Mir.mulOk, Mir.fdivG, Mir.modG, Mir.powG, Mir.negG, Mir.ltG, Mir.leG, Mir.gtG, Mir.geG, Mir.isG, Mir.isNotG, Mir.isNon, Mir.env0, Mir.ins1, Mir.run0, Mir.run1, Mir.runN, Mir.frz, Mir.nxtM, Mir.unM, Mir.appM, Mir.isLst, Mir.kmIx, Mir.kmIn, Mir.scpM, Mir.lowU, ksD, hb, e1, e2, hL]
  have := all_true (ds := ks.map kD)
  simp at this
  simp [this]

theorem part_ok {ks : List (D × D)} {b : List Int} {n : Int} (h4 : ks.length ≤ 4) (hl : b.length ≤ n) (hn : n ≤ 1000) (hb : ∀ i ∈ b, 0 ≤ i ∧ i < ks.length) : F_is_stretch_of [ksD ks, ptD b, .int n] = .ok (.bl true) := by
  have hL := lcL_pure (tg := .one 3) (t := yesM) (f := (callM F_is_number [(varM 3), (conM (.int 0)), (op2M subG (biM lenG [(varM 0)]) (conM (.int 1)))])) (ρ0 := [some (.d (ksD ks)), some (.d (ptD b)), some (.d (.int n)), none]) (S := []) (fun _ => D.bl true) (b.map D.int) fun d hd => by
    obtain ⟨i, hi, rfl⟩ := List.mem_map.mp hd
    refine ⟨[some (.d (ksD ks)), some (.d (ptD b)), some (.d (.int n)), some (.d (.int i))], rfl, rfl, ?_⟩
    have h := hb i hi
    have e := isnum_ok (i := i) (lo := 0) (hi := (ks.length : Int) - 1) (by omega)
    simp [Mir.seqM, Mir.retM, Mir.retNM, Mir.drpM, Mir.asgM, Mir.ifM, Mir.toS, Mir.namG, Mir.tupG, Mir.allG, Mir.lsuG, Mir.varM, Mir.conM, Mir.op2M, Mir.op1M, Mir.tstM, Mir.andM, Mir.orM, Mir.notM, Mir.andT, Mir.orT, Mir.notT, Mir.iteM, Mir.chM, Mir.biM, Mir.isM, Mir.callM, Mir.callC, Mir.callN, Mir.argsM, Mir.O.bind, Mir.rd, Mir.rds, Mir.pures, Mir.tupM, Mir.lstM, Mir.nlsM, Mir.slM, Mir.noP, Mir.someP, Mir.slG, Mir.lcM, Mir.nlcM, Mir.wipeE, Mir.seqI, Mir.rng1I, Mir.rng2I, Mir.zpBI, Mir.seqU, Mir.strI, Mir.forM, Mir.setM, Mir.setC, Mir.parsM, Mir.setUs, Mir.meM, Mir.joinG, Mir.splG, Mir.lenG, Mir.intG, Mir.strG, Mir.listG, Mir.tupleG, Mir.isdic, Mir.isE, Mir.ixG, Mir.addG, Mir.subG, Mir.mulG, Mir.mulOk, Mir.fdivG, Mir.modG, Mir.powG, Mir.negG, Mir.ltG, Mir.leG, Mir.gtG, Mir.geG, Mir.isG, Mir.isNotG, Mir.isNon, Mir.env0, Mir.ins1, Mir.run0, Mir.run1, Mir.runN, Mir.frz, Mir.nxtM, Mir.unM, Mir.appM, Mir.isLst, Mir.kmIx, Mir.kmIn, Mir.scpM, Mir.lowU, ksD, e]
  have hbg : b.length ≤ big := by unfold big; omega
  have hlt : ¬ n < (b.length : Int) := by omega
  unfold ksD ptD at hL
  simp [F_is_stretch_of, m_is_stretch_of, Mir.seqM, Mir.retM, Mir.retNM, Mir.drpM, Mir.asgM, Mir.ifM, Mir.toS, Mir.namG, Mir.tupG, Mir.allG, Mir.lsuG, Mir.varM, Mir.conM, Mir.op2M, Mir.op1M, Mir.tstM, Mir.andM, Mir.orM, Mir.notM, Mir.andT, Mir.orT, Mir.notT, Mir.iteM, Mir.chM, Mir.biM, Mir.isM, Mir.callM, Mir.callC, Mir.callN, Mir.argsM, Mir.O.bind, Mir.rd, Mir.rds, Mir.pures, Mir.tupM, Mir.lstM, Mir.nlsM, Mir.slM, Mir.noP, Mir.someP, Mir.slG, Mir.lcM, Mir.nlcM, Mir.wipeE, Mir.seqI, Mir.rng1I, Mir.rng2I, Mir.zpBI, Mir.seqU, Mir.strI, Mir.forM, Mir.setM, Mir.setC, Mir.parsM, Mir.setUs, Mir.meM, Mir.joinG, Mir.splG, Mir.lenG, Mir.intG, Mir.strG, Mir.listG, Mir.tupleG, Mir.isdic, Mir.isE, Mir.ixG, Mir.addG, Mir.subG, Mir.mulG, Mir.mulOk, Mir.fdivG, Mir.modG, Mir.powG, Mir.negG, Mir.ltG, Mir.leG, Mir.gtG, Mir.geG, Mir.isG, Mir.isNotG, Mir.isNon, Mir.env0, Mir.ins1, Mir.run0, Mir.run1, Mir.runN, Mir.frz, Mir.nxtM, Mir.unM, Mir.appM, Mir.isLst, Mir.kmIx, Mir.kmIn, Mir.scpM, Mir.lowU, ksD, ptD, hbg, hlt, hL]
  have := all_true (ds := b.map D.int)
  simp at this
  simp [this]
theorem isroad_ok {ks : List (D × D)} {b r e : List Int} {n : Nat} (R : Road ks b r e n) (hn : n ≤ 4) : F_is_road_of [roadD ks b r e] = .ok (.bl true) := by
  have hk := kinds_are R.k1 R.k4 R.ko
  have l1 := R.bl
  have l2 := R.rl
  have l3 := R.el
  have h1 := part_ok (n := 4) R.k4 (by omega) (by omega) R.bi
  have h2 := part_ok (n := 4) R.k4 (by omega) (by omega) R.ri
  have h3 := part_ok (n := 4) R.k4 (by omega) (by omega) R.ei
  have hL := lcL_pure (tg := .one 1) (t := yesM) (f := (callM F_is_stretch_of [(op2M ixG (varM 0) (conM (.int 0))), (varM 1), (conM (.int 4))])) (ρ0 := [some (.d (roadD ks b r e)), none]) (S := []) (fun _ => D.bl true) [ptD b, ptD r, ptD e] fun d hd => by
    have hd' : d = ptD b ∨ d = ptD r ∨ d = ptD e := by simpa using hd
    refine ⟨[some (.d (roadD ks b r e)), some (.d d)], rfl, rfl, ?_⟩
    rcases hd' with q | q | q <;> subst q <;> simp [Mir.seqM, Mir.retM, Mir.retNM, Mir.drpM, Mir.asgM, Mir.ifM, Mir.toS, Mir.namG, Mir.tupG, Mir.allG, Mir.lsuG, Mir.varM, Mir.conM, Mir.op2M, Mir.op1M, Mir.tstM, Mir.andM, Mir.orM, Mir.notM, Mir.andT, Mir.orT, Mir.notT, Mir.iteM, Mir.chM, Mir.biM, Mir.isM, Mir.callM, Mir.callC, Mir.callN, Mir.argsM, Mir.O.bind, Mir.rd, Mir.rds, Mir.pures, Mir.tupM, Mir.lstM, Mir.nlsM, Mir.slM, Mir.noP, Mir.someP, Mir.slG, Mir.lcM, Mir.nlcM, Mir.wipeE, Mir.seqI, Mir.rng1I, Mir.rng2I, Mir.zpBI, Mir.seqU, Mir.strI, Mir.forM, Mir.setM, Mir.setC, Mir.parsM, Mir.setUs, Mir.meM, Mir.joinG, Mir.splG, Mir.lenG, Mir.intG, Mir.strG, Mir.listG, Mir.tupleG, Mir.isdic, Mir.isE, Mir.ixG, Mir.addG, Mir.subG, Mir.mulG, Mir.mulOk, Mir.fdivG, Mir.modG, Mir.powG, Mir.negG, Mir.ltG, Mir.leG, Mir.gtG, Mir.geG, Mir.isG, Mir.isNotG, Mir.isNon, Mir.env0, Mir.ins1, Mir.run0, Mir.run1, Mir.runN, Mir.frz, Mir.nxtM, Mir.unM, Mir.appM, Mir.isLst, Mir.kmIx, Mir.kmIn, Mir.scpM, Mir.lowU, L2.atI, L2.ixN, roadD, h1, h2, h3]
  have hr : r ≠ [] := by intro z; have := R.r1; rw [z] at this; simp at this
  have hne : neG (ptD r) (.tup []) = some (.bl true) := by
    rw [show ptD r = .tup (r.map D.int) from rfl, neG_nil (n := 1) (cl_ints r)]
    cases r with
    | nil => exact absurd rfl hr
    | cons _ _ => rfl
  simp [F_is_road_of, m_is_road_of, Mir.seqM, Mir.retM, Mir.retNM, Mir.drpM, Mir.asgM, Mir.ifM, Mir.toS, Mir.namG, Mir.tupG, Mir.allG, Mir.lsuG, Mir.varM, Mir.conM, Mir.op2M, Mir.op1M, Mir.tstM, Mir.andM, Mir.orM, Mir.notM, Mir.andT, Mir.orT, Mir.notT, Mir.iteM, Mir.chM, Mir.biM, Mir.isM, Mir.callM, Mir.callC, Mir.callN, Mir.argsM, Mir.O.bind, Mir.rd, Mir.rds, Mir.pures, Mir.tupM, Mir.lstM, Mir.nlsM, Mir.slM, Mir.noP, Mir.someP, Mir.slG, Mir.lcM, Mir.nlcM, Mir.wipeE, Mir.seqI, Mir.rng1I, Mir.rng2I, Mir.zpBI, Mir.seqU, Mir.strI, Mir.forM, Mir.setM, Mir.setC, Mir.parsM, Mir.setUs, Mir.meM, Mir.joinG, Mir.splG, Mir.lenG, Mir.intG, Mir.strG, Mir.listG, Mir.tupleG, Mir.isdic, Mir.isE, Mir.ixG, Mir.addG, Mir.subG, Mir.mulG, Mir.mulOk, Mir.fdivG, Mir.modG, Mir.powG, Mir.negG, Mir.ltG, Mir.leG, Mir.gtG, Mir.geG, Mir.isG, Mir.isNotG, Mir.isNon, Mir.env0, Mir.ins1, Mir.run0, Mir.run1, Mir.runN, Mir.frz, Mir.nxtM, Mir.unM, Mir.appM, Mir.isLst, Mir.kmIx, Mir.kmIn, Mir.scpM, Mir.lowU, L2.atI, L2.ixN, roadD, hk, cutL, HT.sIx, big, neG_int] at hL ⊢
  rw [hL]
  simp [Mir.seqM, Mir.retM, Mir.retNM, Mir.drpM, Mir.asgM, Mir.ifM, Mir.toS, Mir.namG, Mir.tupG, Mir.allG, Mir.lsuG, Mir.varM, Mir.conM, Mir.op2M, Mir.op1M, Mir.tstM, Mir.andM, Mir.orM, Mir.notM, Mir.andT, Mir.orT, Mir.notT, Mir.iteM, Mir.chM, Mir.biM, Mir.isM, Mir.callM, Mir.callC, Mir.callN, Mir.argsM, Mir.O.bind, Mir.rd, Mir.rds, Mir.pures, Mir.tupM, Mir.lstM, Mir.nlsM, Mir.slM, Mir.noP, Mir.someP, Mir.slG, Mir.lcM, Mir.nlcM, Mir.wipeE, Mir.seqI, Mir.rng1I, Mir.rng2I, Mir.zpBI, Mir.seqU, Mir.strI, Mir.forM, Mir.setM, Mir.setC, Mir.parsM, Mir.setUs, Mir.meM, Mir.joinG, Mir.splG, Mir.lenG, Mir.intG, Mir.strG, Mir.listG, Mir.tupleG, Mir.isdic, Mir.isE, Mir.ixG, Mir.addG, Mir.subG, Mir.mulG, Mir.mulOk, Mir.fdivG, Mir.modG, Mir.powG, Mir.negG, Mir.ltG, Mir.leG, Mir.gtG, Mir.geG, Mir.isG, Mir.isNotG, Mir.isNon, Mir.env0, Mir.ins1, Mir.run0, Mir.run1, Mir.runN, Mir.frz, Mir.nxtM, Mir.unM, Mir.appM, Mir.isLst, Mir.kmIx, Mir.kmIn, Mir.scpM, Mir.lowU, L2.atI, L2.ixN, Mir.allB, blsOf, hne]

/-! ### words and lines -/
def strOf (r : R) : Str := match r with
  | .ok (.str x) => x
  | _ => ""
def wS (w : D) : Str := strOf (F_ways_word [w])
def cS (b : List Int) : Str := strOf (F_cells_word [ptD b])
def kindL (k : D × D) : Str := "kind " ++ wS k.1 ++ " " ++ wS k.2
def short (x : Str) : Bool := decide (x.length ≤ 40) && x.cps.all (· < 128) && x.cps.toList.all (· ≠ 10)
theorem w_chk : (opts.all fun a => isOk (F_ways_word [a]) (.str (wS a)) && isOk (F__law_word [a]) (.str (wS a))) = true := by decide +kernel
theorem kl_chk : (opts.all fun a => opts.all fun b => short (kindL (a, b)) && isOk (F_part_in [.str (kindL (a, b))]) (.tup [.str "kind", kD (a, b)])) = true := by decide +kernel
/-- all rows of n cells -/
def rows : Nat → List (List Int)
  | 0 => [[]]
  | n + 1 => (rows n).flatMap fun t => [0, 1, 2, 3].map fun i => i :: t
theorem rows_mem : ∀ {b : List Int}, (∀ i ∈ b, 0 ≤ i ∧ i < 4) → b ∈ rows b.length
  | [], _ => by simp [rows]
  | i :: b, h => by
    have h1 := h i List.mem_cons_self
    have h2 := rows_mem fun j hj => h j (List.mem_cons_of_mem _ hj)
    simp only [List.length_cons, rows, List.mem_flatMap, List.mem_map]
    refine ⟨b, h2, i, ?_, rfl⟩
    have : i = 0 ∨ i = 1 ∨ i = 2 ∨ i = 3 := by omega
    simpa using this
def small : List (List Int) := rows 0 ++ rows 1 ++ rows 2 ++ rows 3
def blk (i : Int) : List (List Int) := (rows 3).map fun t => i :: t
def allRows : List (List Int) := small ++ blk 0 ++ blk 1 ++ blk 2 ++ blk 3
theorem allRows_mem {b : List Int} (h : ∀ i ∈ b, 0 ≤ i ∧ i < 4) (hl : b.length ≤ 4) : b ∈ allRows := by
  have q := rows_mem h
  unfold allRows small
  have : b.length = 0 ∨ b.length = 1 ∨ b.length = 2 ∨ b.length = 3 ∨ b.length = 4 := by omega
  rcases this with e | e | e | e | e
  · rw [e] at q; simp [q]
  · rw [e] at q; simp [q]
  · rw [e] at q; simp [q]
  · rw [e] at q; simp [q]
  · cases b with
    | nil => cases e
    | cons i t =>
      have ht := rows_mem fun j hj => h j (List.mem_cons_of_mem _ hj)
      have e2 : t.length = 3 := by simpa using e
      rw [e2] at ht
      have hi := h i List.mem_cons_self
      have hm : i :: t ∈ blk i := List.mem_map.mpr ⟨t, ht, rfl⟩
      have : i = 0 ∨ i = 1 ∨ i = 2 ∨ i = 3 := by omega
      rcases this with z | z | z | z <;> (rw [z] at hm ⊢; simp [hm])
def partL (w : Str) (b : List Int) : Str := w ++ " " ++ cS b
def wds : List Str := ["begin", "round", "end"]
def chkC (l : List (List Int)) : Bool := l.all fun b => isOk (F_cells_word [ptD b]) (.str (cS b)) && isOk (F__law_word [ptD b]) (.str (cS b)) && decide ((cS b).length ≤ 10)
def chkP (w : Str) (l : List (List Int)) : Bool := l.all fun b => short (partL w b) && isOk (F_part_in [.str (partL w b)]) (.tup [.str w, ptD b])
theorem all_rows {p : List Int → Bool} (h : small.all p = true) (h0 : (blk 0).all p = true) (h1 : (blk 1).all p = true) (h2 : (blk 2).all p = true) (h3 : (blk 3).all p = true) : ∀ b ∈ allRows, p b = true := by
  intro b hb
  simp only [allRows, List.mem_append] at hb
  rcases hb with (((q | q) | q) | q) | q
  · exact List.all_eq_true.mp h b q
  · exact List.all_eq_true.mp h0 b q
  · exact List.all_eq_true.mp h1 b q
  · exact List.all_eq_true.mp h2 b q
  · exact List.all_eq_true.mp h3 b q
theorem c_s : chkC small = true := by decide +kernel
theorem c_0 : chkC (blk 0) = true := by decide +kernel
theorem c_1 : chkC (blk 1) = true := by decide +kernel
theorem c_2 : chkC (blk 2) = true := by decide +kernel
theorem c_3 : chkC (blk 3) = true := by decide +kernel
theorem pb_s : chkP "begin" small = true := by decide +kernel
theorem pb_0 : chkP "begin" (blk 0) = true := by decide +kernel
theorem pb_1 : chkP "begin" (blk 1) = true := by decide +kernel
theorem pb_2 : chkP "begin" (blk 2) = true := by decide +kernel
theorem pb_3 : chkP "begin" (blk 3) = true := by decide +kernel
theorem pr_s : chkP "round" small = true := by decide +kernel
theorem pr_0 : chkP "round" (blk 0) = true := by decide +kernel
theorem pr_1 : chkP "round" (blk 1) = true := by decide +kernel
theorem pr_2 : chkP "round" (blk 2) = true := by decide +kernel
theorem pr_3 : chkP "round" (blk 3) = true := by decide +kernel
theorem pe_s : chkP "end" small = true := by decide +kernel
theorem pe_0 : chkP "end" (blk 0) = true := by decide +kernel
theorem pe_1 : chkP "end" (blk 1) = true := by decide +kernel
theorem pe_2 : chkP "end" (blk 2) = true := by decide +kernel
theorem pe_3 : chkP "end" (blk 3) = true := by decide +kernel
theorem cl_chk : ∀ w ∈ wds, ∀ b ∈ allRows, (short (partL w b) && isOk (F_part_in [.str (partL w b)]) (.tup [.str w, ptD b])) = true := by
  intro w hw
  simp only [wds, List.mem_cons, List.not_mem_nil, or_false] at hw
  rcases hw with h | h | h <;> subst h
  · exact all_rows pb_s pb_0 pb_1 pb_2 pb_3
  · exact all_rows pr_s pr_0 pr_1 pr_2 pr_3
  · exact all_rows pe_s pe_0 pe_1 pe_2 pe_3

theorem add_str {x y : Str} (hx : x.length ≤ 1000) (hy : y.length ≤ 1000) : addG (.str x) (.str y) = some (.str (x ++ y)) := by
  have h : x.length + y.length ≤ big := by unfold big; omega
  simp [addG, h]
theorem len_app (x y : Str) : (x ++ y).length = x.length + y.length := by
  show (x.cps ++ y.cps).size = _
  simp [Str.length]
theorem wl_chk : (opts.all fun a => decide ((wS a).length ≤ 10)) = true := by decide +kernel
theorem ww_ok {a : D} (h : a ∈ opts) : F_ways_word [a] = .ok (.str (wS a)) ∧ F__law_word [a] = .ok (.str (wS a)) ∧ (wS a).length ≤ 10 := by
  have h1 := List.all_eq_true.mp w_chk a h
  have h2 := List.all_eq_true.mp wl_chk a h
  simp only [Bool.and_eq_true] at h1
  exact ⟨isOk_eq h1.1, isOk_eq h1.2, of_decide_eq_true h2⟩
theorem cw_ok {b : List Int} (h : b ∈ allRows) : F_cells_word [ptD b] = .ok (.str (cS b)) ∧ F__law_word [ptD b] = .ok (.str (cS b)) ∧ (cS b).length ≤ 10 := by
  have h1 := all_rows c_s c_0 c_1 c_2 c_3 b h
  simp only [Bool.and_eq_true, decide_eq_true_eq] at h1
  exact ⟨isOk_eq h1.1.1, isOk_eq h1.1.2, h1.2⟩
def linesS (ks : List (D × D)) (b r e : List Int) : List Str := ks.map kindL ++ [partL "begin" b, partL "round" r, partL "end" e]
theorem lines_ok {ks : List (D × D)} {b r e : List Int} {n : Nat} (R : Road ks b r e n) (hb : b ∈ allRows) (hr : r ∈ allRows) (he : e ∈ allRows) :
    F_road_lines [roadD ks b r e] = .ok (.lst ((linesS ks b r e).map .str)) := by
  have hL := lcL_rows (tg := .many [2, 3]) (t := yesM) (f := (op2M addG (op2M addG (op2M addG (conM (.str "kind ")) (callM F_ways_word [(varM 2)])) (conM (.str " "))) (callM F_ways_word [(varM 3)]))) (ρ0 := [some (.d (roadD ks b r e)), none, none, none, none, none]) (S := []) (ps := ks.map fun k => (kD k, .str (kindL k))) rfl rfl fun p hp => by
    obtain ⟨k, hk, rfl⟩ := List.mem_map.mp hp
    obtain ⟨a1, _, a3⟩ := ww_ok (R.ko k hk).1
    obtain ⟨c1, _, c3⟩ := ww_ok (R.ko k hk).2
    refine ⟨[some (.d (roadD ks b r e)), none, some (.d k.1), some (.d k.2), none, none], rfl, rfl, ?_⟩
    have l0 : ("kind " : Str).length = 5 := rfl
    have l1 : (" " : Str).length = 1 := rfl
    have e1 := add_str (x := "kind ") (y := wS k.1) (by omega) (by omega)
    have e2 := add_str (x := "kind " ++ wS k.1) (y := " ") (by rw [len_app]; omega) (by omega)
    have e3 := add_str (x := "kind " ++ wS k.1 ++ " ") (y := wS k.2) (by rw [len_app, len_app]; omega) (by omega)
    simp only [Mir.seqM, Mir.retM, Mir.retNM, Mir.drpM, Mir.asgM, Mir.ifM, Mir.toS, Mir.namG, Mir.tupG, Mir.allG, Mir.lsuG, Mir.varM, Mir.conM, Mir.op2M, Mir.op1M, Mir.tstM, Mir.andM, Mir.orM, Mir.notM, Mir.andT, Mir.orT, Mir.notT, Mir.iteM, Mir.chM, Mir.biM, Mir.isM, Mir.callM, Mir.callC, Mir.callN, Mir.argsM, Mir.O.bind, Mir.rd, Mir.rds, Mir.pures, Mir.tupM, Mir.lstM, Mir.nlsM, Mir.slM, Mir.noP, Mir.someP, Mir.slG, Mir.lcM, Mir.nlcM, Mir.wipeE, Mir.seqI, Mir.rng1I, Mir.rng2I, Mir.zpBI, Mir.seqU, Mir.strI, Mir.forM, Mir.setM, Mir.setC, Mir.parsM, Mir.setUs, Mir.meM, Mir.joinG, Mir.splG, Mir.lenG, Mir.intG, Mir.strG, Mir.listG, Mir.tupleG, Mir.isdic, Mir.isE, Mir.ixG, Mir.subG, Mir.mulG, Mir.mulOk, Mir.fdivG, Mir.modG, Mir.powG, Mir.negG, Mir.ltG, Mir.leG, Mir.gtG, Mir.geG, Mir.isG, Mir.isNotG, Mir.isNon, Mir.env0, Mir.ins1, Mir.run0, Mir.run1, Mir.runN, Mir.frz, Mir.nxtM, Mir.unM, Mir.appM, Mir.isLst, Mir.kmIx, Mir.kmIn, Mir.scpM, Mir.lowU, List.getElem?_cons_succ, List.getElem?_cons_zero, a1, c1, e1, e2, e3, kindL]
  have hL2 := lcL_rows (tg := .many [4, 5]) (t := yesM) (f := (op2M addG (op2M addG (varM 4) (conM (.str " "))) (callM F_cells_word [(varM 5)]))) (ρ0 := [some (.d (roadD ks b r e)), some (.d (.lst (ks.map fun k => .str (kindL k)))), none, none, none, none]) (S := [])
    (ps := [(.tup [.str "begin", ptD b], .str (partL "begin" b)), (.tup [.str "round", ptD r], .str (partL "round" r)), (.tup [.str "end", ptD e], .str (partL "end" e))]) rfl rfl fun p hd => by
    have hd' : ∃ w c, p = (.tup [.str w, ptD c], .str (partL w c)) ∧ w.length ≤ 5 ∧ c ∈ allRows := by
      simp only [List.mem_cons, List.not_mem_nil, or_false] at hd
      rcases hd with h | h | h
      · exact ⟨_, _, h, by decide, hb⟩
      · exact ⟨_, _, h, by decide, hr⟩
      · exact ⟨_, _, h, by decide, he⟩
    obtain ⟨w, c, rfl, hw, hc⟩ := hd'
    obtain ⟨a1, _, a3⟩ := cw_ok hc
    refine ⟨[some (.d (roadD ks b r e)), some (.d (.lst (ks.map fun k => .str (kindL k)))), none, none, some (.d (.str w)), some (.d (ptD c))], rfl, rfl, ?_⟩
    have l1 : (" " : Str).length = 1 := rfl
    have e2 := add_str (x := w) (y := " ") (by omega) (by omega)
    have e3 := add_str (x := w ++ " ") (y := cS c) (by rw [len_app]; omega) (by omega)
    simp only [Mir.seqM, Mir.retM, Mir.retNM, Mir.drpM, Mir.asgM, Mir.ifM, Mir.toS, Mir.namG, Mir.tupG, Mir.allG, Mir.lsuG, Mir.varM, Mir.conM, Mir.op2M, Mir.op1M, Mir.tstM, Mir.andM, Mir.orM, Mir.notM, Mir.andT, Mir.orT, Mir.notT, Mir.iteM, Mir.chM, Mir.biM, Mir.isM, Mir.callM, Mir.callC, Mir.callN, Mir.argsM, Mir.O.bind, Mir.rd, Mir.rds, Mir.pures, Mir.tupM, Mir.lstM, Mir.nlsM, Mir.slM, Mir.noP, Mir.someP, Mir.slG, Mir.lcM, Mir.nlcM, Mir.wipeE, Mir.seqI, Mir.rng1I, Mir.rng2I, Mir.zpBI, Mir.seqU, Mir.strI, Mir.forM, Mir.setM, Mir.setC, Mir.parsM, Mir.setUs, Mir.meM, Mir.joinG, Mir.splG, Mir.lenG, Mir.intG, Mir.strG, Mir.listG, Mir.tupleG, Mir.isdic, Mir.isE, Mir.ixG, Mir.subG, Mir.mulG, Mir.mulOk, Mir.fdivG, Mir.modG, Mir.powG, Mir.negG, Mir.ltG, Mir.leG, Mir.gtG, Mir.geG, Mir.isG, Mir.isNotG, Mir.isNon, Mir.env0, Mir.ins1, Mir.run0, Mir.run1, Mir.runN, Mir.frz, Mir.nxtM, Mir.unM, Mir.appM, Mir.isLst, Mir.kmIx, Mir.kmIn, Mir.scpM, Mir.lowU, List.getElem?_cons_succ, List.getElem?_cons_zero, a1, e2, e3, partL]
  have hbg : ks.length ≤ big := by have := R.k4; unfold big; omega
  have hbg2 : ks.length + 3 ≤ big := by have := R.k4; unfold big; omega
  simp [F_road_lines, m_road_lines, Mir.seqM, Mir.retM, Mir.retNM, Mir.drpM, Mir.asgM, Mir.ifM, Mir.toS, Mir.namG, Mir.tupG, Mir.allG, Mir.lsuG, Mir.varM, Mir.conM, Mir.op2M, Mir.op1M, Mir.tstM, Mir.andM, Mir.orM, Mir.notM, Mir.andT, Mir.orT, Mir.notT, Mir.iteM, Mir.chM, Mir.biM, Mir.isM, Mir.callM, Mir.callC, Mir.callN, Mir.argsM, Mir.O.bind, Mir.rd, Mir.rds, Mir.pures, Mir.tupM, Mir.lstM, Mir.nlsM, Mir.slM, Mir.noP, Mir.someP, Mir.slG, Mir.lcM, Mir.nlcM, Mir.wipeE, Mir.seqI, Mir.rng1I, Mir.rng2I, Mir.zpBI, Mir.seqU, Mir.strI, Mir.forM, Mir.setM, Mir.setC, Mir.parsM, Mir.setUs, Mir.meM, Mir.joinG, Mir.splG, Mir.lenG, Mir.intG, Mir.strG, Mir.listG, Mir.tupleG, Mir.isdic, Mir.isE, Mir.ixG, Mir.addG, Mir.subG, Mir.mulG, Mir.mulOk, Mir.fdivG, Mir.modG, Mir.powG, Mir.negG, Mir.ltG, Mir.leG, Mir.gtG, Mir.geG, Mir.isG, Mir.isNotG, Mir.isNon, Mir.env0, Mir.ins1, Mir.run0, Mir.run1, Mir.runN, Mir.frz, Mir.nxtM, Mir.unM, Mir.appM, Mir.isLst, Mir.kmIx, Mir.kmIn, Mir.scpM, Mir.lowU, L2.atI, L2.ixN, roadD, ksD, cutL, HT.sIx, K_WORDS, pairs, hbg, Function.comp_def, List.map_map] at hL hL2 ⊢
  have hbg3 : ks.length ≤ 999997 := by have := R.k4; omega
  simp [Mir.seqM, Mir.retM, Mir.retNM, Mir.drpM, Mir.asgM, Mir.ifM, Mir.toS, Mir.namG, Mir.tupG, Mir.allG, Mir.lsuG, Mir.varM, Mir.conM, Mir.op2M, Mir.op1M, Mir.tstM, Mir.andM, Mir.orM, Mir.notM, Mir.andT, Mir.orT, Mir.notT, Mir.iteM, Mir.chM, Mir.biM, Mir.isM, Mir.callM, Mir.callC, Mir.callN, Mir.argsM, Mir.O.bind, Mir.rd, Mir.rds, Mir.pures, Mir.tupM, Mir.lstM, Mir.nlsM, Mir.slM, Mir.noP, Mir.someP, Mir.slG, Mir.lcM, Mir.nlcM, Mir.wipeE, Mir.seqI, Mir.rng1I, Mir.rng2I, Mir.zpBI, Mir.seqU, Mir.strI, Mir.forM, Mir.setM, Mir.setC, Mir.parsM, Mir.setUs, Mir.meM, Mir.joinG, Mir.splG, Mir.lenG, Mir.intG, Mir.strG, Mir.listG, Mir.tupleG, Mir.isdic, Mir.isE, Mir.ixG, Mir.addG, Mir.subG, Mir.mulG, Mir.mulOk, Mir.fdivG, Mir.modG, Mir.powG, Mir.negG, Mir.ltG, Mir.leG, Mir.gtG, Mir.geG, Mir.isG, Mir.isNotG, Mir.isNon, Mir.env0, Mir.ins1, Mir.run0, Mir.run1, Mir.runN, Mir.frz, Mir.nxtM, Mir.unM, Mir.appM, Mir.isLst, Mir.kmIx, Mir.kmIn, Mir.scpM, Mir.lowU, L2.atI, L2.ixN, hL, cutL, HT.sIx, K_WORDS, pairs, hL2, big, linesS, Function.comp_def, hbg3]
theorem lines_law {ks : List (D × D)} {b r e : List Int} {n : Nat} (R : Road ks b r e n) (hb : b ∈ allRows) (hr : r ∈ allRows) (he : e ∈ allRows) :
    F__law_lines [roadD ks b r e] = .ok (.lst ((linesS ks b r e).map .str)) := by
  have hL := lcL_rows (tg := .many [4, 5]) (t := yesM) (f := (op2M addG (op2M addG (op2M addG (conM (.str "kind ")) (callM F__law_word [(varM 4)])) (conM (.str " "))) (callM F__law_word [(varM 5)]))) (ρ0 := [some (.d (roadD ks b r e)), none, none, none, none, none]) (S := []) (ps := ks.map fun k => (kD k, .str (kindL k))) rfl rfl fun p hp => by
    obtain ⟨k, hk, rfl⟩ := List.mem_map.mp hp
    obtain ⟨_, a1, a3⟩ := ww_ok (R.ko k hk).1
    obtain ⟨_, c1, c3⟩ := ww_ok (R.ko k hk).2
    refine ⟨[some (.d (roadD ks b r e)), none, none, none, some (.d k.1), some (.d k.2)], rfl, rfl, ?_⟩
    have l0 : ("kind " : Str).length = 5 := rfl
    have l1 : (" " : Str).length = 1 := rfl
    have e1 := add_str (x := "kind ") (y := wS k.1) (by omega) (by omega)
    have e2 := add_str (x := "kind " ++ wS k.1) (y := " ") (by rw [len_app]; omega) (by omega)
    have e3 := add_str (x := "kind " ++ wS k.1 ++ " ") (y := wS k.2) (by rw [len_app, len_app]; omega) (by omega)
    simp only [Mir.seqM, Mir.retM, Mir.retNM, Mir.drpM, Mir.asgM, Mir.ifM, Mir.toS, Mir.namG, Mir.tupG, Mir.allG, Mir.lsuG, Mir.varM, Mir.conM, Mir.op2M, Mir.op1M, Mir.tstM, Mir.andM, Mir.orM, Mir.notM, Mir.andT, Mir.orT, Mir.notT, Mir.iteM, Mir.chM, Mir.biM, Mir.isM, Mir.callM, Mir.callC, Mir.callN, Mir.argsM, Mir.O.bind, Mir.rd, Mir.rds, Mir.pures, Mir.tupM, Mir.lstM, Mir.nlsM, Mir.slM, Mir.noP, Mir.someP, Mir.slG, Mir.lcM, Mir.nlcM, Mir.wipeE, Mir.seqI, Mir.rng1I, Mir.rng2I, Mir.zpBI, Mir.seqU, Mir.strI, Mir.forM, Mir.setM, Mir.setC, Mir.parsM, Mir.setUs, Mir.meM, Mir.joinG, Mir.splG, Mir.lenG, Mir.intG, Mir.strG, Mir.listG, Mir.tupleG, Mir.isdic, Mir.isE, Mir.ixG, Mir.subG, Mir.mulG, Mir.mulOk, Mir.fdivG, Mir.modG, Mir.powG, Mir.negG, Mir.ltG, Mir.leG, Mir.gtG, Mir.geG, Mir.isG, Mir.isNotG, Mir.isNon, Mir.env0, Mir.ins1, Mir.run0, Mir.run1, Mir.runN, Mir.frz, Mir.nxtM, Mir.unM, Mir.appM, Mir.isLst, Mir.kmIx, Mir.kmIn, Mir.scpM, Mir.lowU, List.getElem?_cons_succ, List.getElem?_cons_zero, a1, c1, e1, e2, e3, kindL]
  have part : ∀ (w : Str) (c : List Int), w.length ≤ 5 → c ∈ allRows → F__law_word [ptD c] = .ok (.str (cS c)) ∧ addG (.str w) (.str " ") = some (.str (w ++ " ")) ∧ addG (.str (w ++ " ")) (.str (cS c)) = some (.str (partL w c)) := fun w c hw hc => by
    obtain ⟨_, a1, a3⟩ := cw_ok hc
    have l1 : (" " : Str).length = 1 := rfl
    exact ⟨a1, add_str (by omega) (by omega), add_str (by rw [len_app]; omega) (by omega)⟩
  obtain ⟨x1, x2, x3⟩ := part "begin" b (by decide) hb
  obtain ⟨y1, y2, y3⟩ := part "round" r (by decide) hr
  obtain ⟨z1, z2, z3⟩ := part "end" e (by decide) he
  have hbg : ks.length ≤ big := by have := R.k4; unfold big; omega
  have hb0 : ks.length < big := by have := R.k4; unfold big; omega
  have hb1 : ks.length + 1 < big := by have := R.k4; unfold big; omega
  have hb2 : ks.length + 2 < big := by have := R.k4; unfold big; omega
  simp [F__law_lines, m__law_lines, Mir.seqM, Mir.retM, Mir.retNM, Mir.drpM, Mir.asgM, Mir.ifM, Mir.toS, Mir.namG, Mir.tupG, Mir.allG, Mir.lsuG, Mir.varM, Mir.conM, Mir.op2M, Mir.op1M, Mir.tstM, Mir.andM, Mir.orM, Mir.notM, Mir.andT, Mir.orT, Mir.notT, Mir.iteM, Mir.chM, Mir.biM, Mir.isM, Mir.callM, Mir.callC, Mir.callN, Mir.argsM, Mir.O.bind, Mir.rd, Mir.rds, Mir.pures, Mir.tupM, Mir.lstM, Mir.nlsM, Mir.slM, Mir.noP, Mir.someP, Mir.slG, Mir.lcM, Mir.nlcM, Mir.wipeE, Mir.seqI, Mir.rng1I, Mir.rng2I, Mir.zpBI, Mir.seqU, Mir.strI, Mir.forM, Mir.setM, Mir.setC, Mir.parsM, Mir.setUs, Mir.meM, Mir.joinG, Mir.splG, Mir.lenG, Mir.intG, Mir.strG, Mir.listG, Mir.tupleG, Mir.isdic, Mir.isE, Mir.ixG, Mir.subG, Mir.mulG, Mir.mulOk, Mir.fdivG, Mir.modG, Mir.powG, Mir.negG, Mir.ltG, Mir.leG, Mir.gtG, Mir.geG, Mir.isG, Mir.isNotG, Mir.isNon, Mir.env0, Mir.ins1, Mir.run0, Mir.run1, Mir.runN, Mir.frz, Mir.nxtM, Mir.unM, Mir.appM, Mir.isLst, Mir.kmIx, Mir.kmIn, Mir.scpM, Mir.lowU, L2.atI, L2.ixN, roadD, ksD, cutL, HT.sIx, pairs, hbg, Function.comp_def, List.map_map] at hL ⊢
  simp [Mir.seqM, Mir.retM, Mir.retNM, Mir.drpM, Mir.asgM, Mir.ifM, Mir.toS, Mir.namG, Mir.tupG, Mir.allG, Mir.lsuG, Mir.varM, Mir.conM, Mir.op2M, Mir.op1M, Mir.tstM, Mir.andM, Mir.orM, Mir.notM, Mir.andT, Mir.orT, Mir.notT, Mir.iteM, Mir.chM, Mir.biM, Mir.isM, Mir.callM, Mir.callC, Mir.callN, Mir.argsM, Mir.O.bind, Mir.rd, Mir.rds, Mir.pures, Mir.tupM, Mir.lstM, Mir.nlsM, Mir.slM, Mir.noP, Mir.someP, Mir.slG, Mir.lcM, Mir.nlcM, Mir.wipeE, Mir.seqI, Mir.rng1I, Mir.rng2I, Mir.zpBI, Mir.seqU, Mir.strI, Mir.forM, Mir.setM, Mir.setC, Mir.parsM, Mir.setUs, Mir.meM, Mir.joinG, Mir.splG, Mir.lenG, Mir.intG, Mir.strG, Mir.listG, Mir.tupleG, Mir.isdic, Mir.isE, Mir.ixG, Mir.subG, Mir.mulG, Mir.mulOk, Mir.fdivG, Mir.modG, Mir.powG, Mir.negG, Mir.ltG, Mir.leG, Mir.gtG, Mir.geG, Mir.isG, Mir.isNotG, Mir.isNon, Mir.env0, Mir.ins1, Mir.run0, Mir.run1, Mir.runN, Mir.frz, Mir.nxtM, Mir.unM, Mir.appM, Mir.isLst, Mir.kmIx, Mir.kmIn, Mir.scpM, Mir.lowU, L2.atI, L2.ixN, hL, cutL, HT.sIx, pairs, linesS, Function.comp_def, forL, x1, x2, x3, y1, y2, y3, z1, z2, z3, hb0, hb1, hb2]
theorem short_ok {k : D × D} (h : k.1 ∈ opts ∧ k.2 ∈ opts) : short (kindL k) = true ∧ F_part_in [.str (kindL k)] = .ok (.tup [.str "kind", kD k]) := by
  have h1 := List.all_eq_true.mp (List.all_eq_true.mp kl_chk k.1 h.1) k.2 h.2
  simp only [Bool.and_eq_true] at h1
  exact ⟨h1.1, isOk_eq h1.2⟩
theorem shortP_ok {w : Str} {c : List Int} (hw : w ∈ wds) (hc : c ∈ allRows) : short (partL w c) = true ∧ F_part_in [.str (partL w c)] = .ok (.tup [.str w, ptD c]) := by
  have h1 := cl_chk w hw c hc
  simp only [Bool.and_eq_true] at h1
  exact ⟨h1.1, isOk_eq h1.2⟩
theorem lines_short {ks : List (D × D)} {b r e : List Int} {n : Nat} (R : Road ks b r e n) (hb : b ∈ allRows) (hr : r ∈ allRows) (he : e ∈ allRows) : ∀ l ∈ linesS ks b r e, short l = true := by
  intro l hl
  unfold linesS at hl
  rcases List.mem_append.mp hl with h | h
  · obtain ⟨k, hk, rfl⟩ := List.mem_map.mp h
    exact (short_ok (R.ko k hk)).1
  · simp only [List.mem_cons, List.not_mem_nil, or_false] at h
    rcases h with h | h | h <;> subst h
    · exact (shortP_ok (by simp [wds]) hb).1
    · exact (shortP_ok (by simp [wds]) hr).1
    · exact (shortP_ok (by simp [wds]) he).1
theorem short_len {x : Str} (h : short x = true) : x.length ≤ 40 := by
  unfold short at h
  simp only [Bool.and_eq_true, decide_eq_true_eq] at h
  exact h.1.1
theorem strsOf_map : ∀ xs : List Str, strsOf (xs.map D.str) = some xs
  | [] => rfl
  | x :: xs => by simp [strsOf, strsOf_map xs]
theorem sum_le {k : Nat} : ∀ {xs : List Str}, (∀ x ∈ xs, x.length ≤ k) → (xs.map (·.length)).sum ≤ k * xs.length
  | [], _ => by simp
  | x :: xs, h => by
    have h1 := h x List.mem_cons_self
    have h2 := sum_le fun y hy => h y (List.mem_cons_of_mem _ hy)
    simp only [List.map_cons, List.sum_cons, List.length_cons, Nat.mul_add, Nat.mul_one]
    omega
theorem joinL_len {s : List Nat} : ∀ ps : List (List Nat), (TL.joinL s ps).length ≤ (ps.map List.length).sum + ps.length * s.length
  | [] => by simp [TL.joinL]
  | [p] => by simp [TL.joinL]
  | p :: q :: ps => by
    have := joinL_len (s := s) (q :: ps)
    simp only [TL.joinL, List.length_append, List.map_cons, List.sum_cons, List.length_cons, Nat.add_mul] at this ⊢
    omega
theorem join_len (y : Str) (ps : List Str) : (Txt.join y ps).length ≤ (ps.map (·.length)).sum + ps.length * y.length := by
  rw [TL.join_eq, TL.len_tl, TL.tl_join]
  have := joinL_len (s := TL.tl y) (ps.map TL.tl)
  simpa [TL.len_tl, Function.comp_def] using this
theorem nl_len : ("\n" : Str).length = 1 := rfl
theorem text_len {ks : List (D × D)} {b r e : List Int} {n : Nat} (R : Road ks b r e n) (hb : b ∈ allRows) (hr : r ∈ allRows) (he : e ∈ allRows) :
    ((linesS ks b r e).map (·.length)).sum + (linesS ks b r e).length * ("\n" : Str).length ≤ 1000 := by
  have h1 := sum_le fun x hx => short_len (lines_short R hb hr he x hx)
  have h2 : (linesS ks b r e).length = ks.length + 3 := by simp [linesS]
  have h3 := R.k4
  rw [h2] at h1 ⊢
  rw [nl_len]
  omega
theorem text_ok {ks : List (D × D)} {b r e : List Int} (R : Road ks b r e 4) (hb : b ∈ allRows) (hr : r ∈ allRows) (he : e ∈ allRows) : F_road_text [roadD ks b r e] = .ok (.str (Txt.join "\n" (linesS ks b r e))) := by
  have h1 := isroad_ok R (by omega)
  have h2 := lines_ok R hb hr he
  have h3 : joinG (.str "\n") [.lst ((linesS ks b r e).map .str)] = some (.str (Txt.join "\n" (linesS ks b r e))) := by
    have := text_len R hb hr he
    simp only [joinG, strsOf_map]
    rw [if_pos (by unfold big; omega)]
  simp [F_road_text, m_road_text, F_need_road, m_need_road, Mir.seqM, Mir.retM, Mir.retNM, Mir.drpM, Mir.asgM, Mir.ifM, Mir.toS, Mir.namG, Mir.tupG, Mir.allG, Mir.lsuG, Mir.varM, Mir.conM, Mir.op2M, Mir.op1M, Mir.tstM, Mir.andM, Mir.orM, Mir.notM, Mir.andT, Mir.orT, Mir.notT, Mir.iteM, Mir.chM, Mir.biM, Mir.isM, Mir.callM, Mir.callC, Mir.callN, Mir.argsM, Mir.O.bind, Mir.rd, Mir.rds, Mir.pures, Mir.tupM, Mir.lstM, Mir.nlsM, Mir.slM, Mir.noP, Mir.someP, Mir.slG, Mir.lcM, Mir.nlcM, Mir.wipeE, Mir.seqI, Mir.rng1I, Mir.rng2I, Mir.zpBI, Mir.seqU, Mir.strI, Mir.forM, Mir.setM, Mir.setC, Mir.parsM, Mir.setUs, Mir.meM, Mir.splG, Mir.lenG, Mir.intG, Mir.strG, Mir.listG, Mir.tupleG, Mir.isdic, Mir.isE, Mir.ixG, Mir.addG, Mir.subG, Mir.mulG, Mir.mulOk, Mir.fdivG, Mir.modG, Mir.powG, Mir.negG, Mir.ltG, Mir.leG, Mir.gtG, Mir.geG, Mir.isG, Mir.isNotG, Mir.isNon, Mir.env0, Mir.ins1, Mir.run0, Mir.run1, Mir.runN, Mir.frz, Mir.nxtM, Mir.unM, Mir.appM, Mir.isLst, Mir.kmIx, Mir.kmIn, Mir.scpM, Mir.lowU, L2.atI, L2.ixN, h1, h2, h3]
theorem split_ok {ks : List (D × D)} {b r e : List Int} (R : Road ks b r e 4) (hb : b ∈ allRows) (hr : r ∈ allRows) (he : e ∈ allRows) : splG (.str (Txt.join "\n" (linesS ks b r e))) [.str "\n"] = some (.lst ((linesS ks b r e).map .str)) := by
  have h1 := text_len R hb hr he
  have h2 := join_len "\n" (linesS ks b r e)
  have h3 : Txt.split (Txt.join "\n" (linesS ks b r e)) "\n" = linesS ks b r e := by
    refine TL.split_join (s := 10) (S := []) rfl (by decide +kernel) (by simp [linesS]) fun p hp => ?_
    have h := lines_short R hb hr he p hp
    unfold short at h
    simp only [Bool.and_eq_true, List.all_eq_true] at h
    intro z
    have := h.2 10 z
    simp at this
  simp only [splG]
  rw [if_pos ⟨by rw [nl_len]; omega, by unfold big; omega⟩, h3]

/-! ### what is read -/
def partsD (ks : List (D × D)) (b r e : List Int) : List D := ks.map (fun k => .tup [.str "kind", kD k]) ++ [.tup [.str "begin", ptD b], .tup [.str "round", ptD r], .tup [.str "end", ptD e]]
theorem opts_cl : ∀ a ∈ opts, cl 1 a = true := by decide +kernel
theorem kD_cl {k : D × D} (h : k.1 ∈ opts ∧ k.2 ∈ opts) : cl 2 (kD k) = true := by
  simp [kD, cl, cls, opts_cl _ h.1, opts_cl _ h.2]
theorem cls_all {n : Nat} : ∀ {xs : List D}, (∀ x ∈ xs, cl n x = true) → cls n xs = true
  | [], _ => by simp [cls]
  | x :: xs, h => by
    have h1 := h x List.mem_cons_self
    have h2 := cls_all fun y hy => h y (List.mem_cons_of_mem _ hy)
    simp [cls, h1, h2]
theorem kind_str : cl 3 (.str "kind") = true := by decide +kernel
theorem strs_cl : cl 3 (.str "begin") = true ∧ cl 3 (.str "round") = true ∧ cl 3 (.str "end") = true ∧ cl 3 (.str "kind") = true := by decide +kernel
theorem cl_up : ∀ {n m : Nat} {x : D}, n ≤ m → cl n x = true → cl m x = true
  | n, m, x, h, hx => by
    have key : (∀ (n m : Nat) (x : D), n ≤ m → cl n x = true → cl m x = true) := by
      intro n
      induction n with
      | zero => intro m x _ hx; cases x <;> cases m <;> simp_all [cl]
      | succ n ih =>
        intro m x h hx
        cases m with
        | zero => omega
        | succ m =>
          have ihs : ∀ xs : List D, cls n xs = true → cls m xs = true := fun xs => by
            induction xs with
            | nil => intro _; simp [cls]
            | cons y ys ihy =>
              intro hy
              simp only [cls, Bool.and_eq_true] at hy ⊢
              exact ⟨ih m y (by omega) hy.1, ihy hy.2⟩
          cases x with
          | tup xs => simp only [cl] at hx ⊢; exact ihs xs hx
          | lst xs => simp only [cl] at hx ⊢; exact ihs xs hx
          | _ => simp_all [cl]
    exact key n m x h hx
theorem parts_cl {ks : List (D × D)} {b r e : List Int} {n : Nat} (R : Road ks b r e n) : cl 5 (.lst (partsD ks b r e)) = true := by
  show cls 4 _ = true
  obtain ⟨s1, s2, s3, s4⟩ := strs_cl
  have pt : ∀ c : List Int, cl 3 (ptD c) = true := fun c => cl_up (n := 1) (by decide) (cl_ints c)
  refine cls_all fun x hx => ?_
  unfold partsD at hx
  rcases List.mem_append.mp hx with h | h
  · obtain ⟨k, hk, rfl⟩ := List.mem_map.mp h
    have := cl_up (m := 3) (by decide) (kD_cl (R.ko k hk))
    show cls 3 _ = true
    simp [cls, s4, this]
  · simp only [List.mem_cons, List.not_mem_nil, or_false] at h
    rcases h with h | h | h <;> subst h <;> show cls 3 _ = true <;> simp [cls, s1, s2, s3, pt]
theorem part_all {ks : List (D × D)} {b r e : List Int} {n : Nat} (R : Road ks b r e n) (hb : b ∈ allRows) (hr : r ∈ allRows) (he : e ∈ allRows) (v : Str) :
    lcL (.one 5) yesM (callM F_part_in [(varM 5)]) [some (.d (.str v)), some (.d (.lst ((linesS ks b r e).map .str))), none, none, none, none, none, none] ((linesS ks b r e).map .str) [] = .ok (partsD ks b r e) [] := by
  refine lcL_rows (ps := ks.map (fun k => (D.str (kindL k), .tup [.str "kind", kD k])) ++ [(.str (partL "begin" b), .tup [.str "begin", ptD b]), (.str (partL "round" r), .tup [.str "round", ptD r]), (.str (partL "end" e), .tup [.str "end", ptD e])]) ?_ ?_ fun p hp => ?_
  · simp [linesS, Function.comp_def]
  · simp [partsD, Function.comp_def]
  · refine ⟨[some (.d (.str v)), some (.d (.lst ((linesS ks b r e).map .str))), none, none, none, some (.d p.1), none, none], rfl, rfl, ?_⟩
    have hF : F_part_in [p.1] = .ok p.2 := by
      rcases List.mem_append.mp hp with h | h
      · obtain ⟨k, hk, rfl⟩ := List.mem_map.mp h
        exact (short_ok (R.ko k hk)).2
      · simp only [List.mem_cons, List.not_mem_nil, or_false] at h
        rcases h with h | h | h <;> subst h
        · exact (shortP_ok (by simp [wds]) hb).2
        · exact (shortP_ok (by simp [wds]) hr).2
        · exact (shortP_ok (by simp [wds]) he).2
    simp [Mir.seqM, Mir.retM, Mir.retNM, Mir.drpM, Mir.asgM, Mir.ifM, Mir.toS, Mir.namG, Mir.tupG, Mir.allG, Mir.lsuG, Mir.varM, Mir.conM, Mir.op2M, Mir.op1M, Mir.tstM, Mir.andM, Mir.orM, Mir.notM, Mir.andT, Mir.orT, Mir.notT, Mir.iteM, Mir.chM, Mir.biM, Mir.isM, Mir.callM, Mir.callC, Mir.callN, Mir.argsM, Mir.O.bind, Mir.rd, Mir.rds, Mir.pures, Mir.tupM, Mir.lstM, Mir.nlsM, Mir.slM, Mir.noP, Mir.someP, Mir.slG, Mir.lcM, Mir.nlcM, Mir.wipeE, Mir.seqI, Mir.rng1I, Mir.rng2I, Mir.zpBI, Mir.seqU, Mir.strI, Mir.forM, Mir.setM, Mir.setC, Mir.parsM, Mir.setUs, Mir.meM, Mir.joinG, Mir.splG, Mir.lenG, Mir.intG, Mir.strG, Mir.listG, Mir.tupleG, Mir.isdic, Mir.isE, Mir.ixG, Mir.addG, Mir.subG, Mir.mulG, Mir.mulOk, Mir.fdivG, Mir.modG, Mir.powG, Mir.negG, Mir.ltG, Mir.leG, Mir.gtG, Mir.geG, Mir.isG, Mir.isNotG, Mir.isNon, Mir.env0, Mir.ins1, Mir.run0, Mir.run1, Mir.runN, Mir.frz, Mir.nxtM, Mir.unM, Mir.appM, Mir.isLst, Mir.kmIx, Mir.kmIn, Mir.scpM, Mir.lowU, hF]
theorem words_lc {ks : List (D × D)} {b r e : List Int} {u v w : Option U} : lcL (.many [6, 7]) yesM (varM 6) [u, v, w, some (.d (.int ks.length)), none, none, none, none] (partsD ks b r e) [] = .ok (ks.map (fun _ => D.str "kind") ++ [.str "begin", .str "round", .str "end"]) [] := by
  refine lcL_rows (ps := ks.map (fun k => (.tup [.str "kind", kD k], D.str "kind")) ++ [(.tup [.str "begin", ptD b], .str "begin"), (.tup [.str "round", ptD r], .str "round"), (.tup [.str "end", ptD e], .str "end")]) ?_ ?_ fun p hp => ?_
  · simp [partsD, Function.comp_def]
  · simp [Function.comp_def]
  · have : ∃ a c, p = (.tup [a, c], a) := by
      rcases List.mem_append.mp hp with h | h
      · obtain ⟨k, hk, rfl⟩ := List.mem_map.mp h
        exact ⟨_, _, rfl⟩
      · simp only [List.mem_cons, List.not_mem_nil, or_false] at h
        rcases h with h | h | h <;> exact ⟨_, _, h⟩
    obtain ⟨a, c, rfl⟩ := this
    exact ⟨_, rfl, rfl, rfl⟩
theorem snd_lc {u v w x : Option U} : ∀ ps : List (D × D), lcL (.many [6, 7]) yesM (varM 7) [u, v, w, x, none, none, none, none] (ps.map fun p => .tup [p.1, p.2]) [] = .ok (ps.map (·.2)) [] := fun ps => by
  refine lcL_rows (ps := ps.map fun p => (.tup [p.1, p.2], p.2)) ?_ ?_ fun p hp => ?_
  · simp [Function.comp_def]
  · simp [Function.comp_def]
  · obtain ⟨q, hq, rfl⟩ := List.mem_map.mp hp
    exact ⟨_, rfl, rfl, rfl⟩
theorem take_parts {ks : List (D × D)} {b r e : List Int} : cutL (partsD ks b r e) none (some (ks.length : Int)) = (ks.map fun k => ((D.str "kind", kD k) : D × D)).map fun p => .tup [p.1, p.2] := by
  have h : ¬ ((ks.length : Int) < 0) := by omega
  simp [cutL, HT.sIx, partsD, h, Function.comp_def, List.take_append]
theorem drop_parts {ks : List (D × D)} {b r e : List Int} : cutL (partsD ks b r e) (some (ks.length : Int)) none = [((D.str "begin", ptD b) : D × D), (.str "round", ptD r), (.str "end", ptD e)].map fun p => .tup [p.1, p.2] := by
  have h : ¬ ((ks.length : Int) < 0) := by omega
  simp [cutL, HT.sIx, partsD, h, Function.comp_def, List.drop_append]
theorem flat_rep (n : Nat) (d : D) : (List.replicate n [d]).flatten = List.replicate n d := by
  induction n with
  | zero => rfl
  | succ n ih => simp [List.replicate_succ, ih]
theorem map_rep {α : Type} (d : D) : ∀ xs : List α, xs.map (fun _ => d) = List.replicate xs.length d
  | [] => rfl
  | x :: xs => by simp [List.replicate_succ, map_rep d xs]
theorem words_cl (n : Nat) : cl 4 (.lst (List.replicate n (D.str "kind") ++ [.str "begin", .str "round", .str "end"])) = true := by
  show cls 3 _ = true
  obtain ⟨s1, s2, s3, s4⟩ := strs_cl
  refine cls_all fun x hx => ?_
  rcases List.mem_append.mp hx with h | h
  · rw [(List.mem_replicate.mp h).2]; exact s4
  · simp only [List.mem_cons, List.not_mem_nil, or_false] at h
    rcases h with h | h | h <;> subst h <;> assumption
theorem none_in {ks : List (D × D)} {b r e : List Int} {n : Nat} (R : Road ks b r e n) : inG .non (.lst (partsD ks b r e)) = some (.bl false) := by
  have h1 := cl_sh (parts_cl R) (by decide)
  have h2 : sh .non = true := rfl
  have h3 : ((partsD ks b r e).any fun z => eqD z .non) = false := by
    rw [List.any_eq_false]
    intro z hz
    unfold partsD at hz
    have : ∃ xs, z = .tup xs := by
      rcases List.mem_append.mp hz with h | h
      · obtain ⟨k, hk, rfl⟩ := List.mem_map.mp h
        exact ⟨_, rfl⟩
      · simp only [List.mem_cons, List.not_mem_nil, or_false] at h
        rcases h with h | h | h <;> exact ⟨_, h⟩
    obtain ⟨xs, rfl⟩ := this
    exact Bool.false_ne_true
  show (if (sh .non && sh (.lst (partsD ks b r e))) = true then some (D.bl ((partsD ks b r e).any fun z => eqD z .non)) else none) = _
  rw [h1, h2, h3]
  rfl
theorem read_ok {ks : List (D × D)} {b r e : List Int} (R : Road ks b r e 4) (hb : b ∈ allRows) (hr : r ∈ allRows) (he : e ∈ allRows) : F_read_road [.str (Txt.join "\n" (linesS ks b r e))] = .ok (roadD ks b r e) := by
  have h1 := isroad_ok R (by omega)
  have h2 := split_ok R hb hr he
  have h3 := part_all R hb hr he (Txt.join "\n" (linesS ks b r e))
  have h4 := none_in R
  have hk1 := R.k1
  have hk4 := R.k4
  have hl : (linesS ks b r e).length ≤ 1000000 := by simp [linesS]; omega
  have hp : (partsD ks b r e).length = ks.length + 3 := by simp [partsD]
  have hpb : (partsD ks b r e).length ≤ 1000000 := by rw [hp]; omega
  have hn : neG (.lst (ks.map (fun _ => D.str "kind") ++ [.str "begin", .str "round", .str "end"])) (.lst (List.replicate ks.length (D.str "kind") ++ [.str "begin", .str "round", .str "end"])) = some (.bl false) := by
    rw [map_rep]
    exact neG_refl (words_cl _) (by decide)
  have hi1 : ¬ ((ks.length : Int) < 1) := by omega
  have hi2 : ((ks.length : Int) ≤ 1000) := by omega
  have hm : subG (.int ((partsD ks b r e).length : Nat)) (.int 3) = some (.int (ks.length : Nat)) := by
    rw [hp]; simp [subG]
  have hkl : ks.length ≤ 1000000 := by omega
  have hkl2 : ks.length ≤ 999997 := by omega
  have hc1 : slG (.lst (partsD ks b r e)) none (some (ks.length : Int)) = some (.lst ((ks.map fun k => ((D.str "kind", kD k) : D × D)).map fun p => .tup [p.1, p.2])) := by
    rw [← take_parts (b := b) (r := r) (e := e)]; rfl
  have hc2 : slG (.lst (partsD ks b r e)) (some (ks.length : Int)) none = some (.lst ([((D.str "begin", ptD b) : D × D), (.str "round", ptD r), (.str "end", ptD e)].map fun p => .tup [p.1, p.2])) := by
    rw [← drop_parts]; rfl
  have w1 := words_lc (ks := ks) (b := b) (r := r) (e := e) (u := some (.d (.str (Txt.join "\n" (linesS ks b r e))))) (v := some (.d (.lst ((linesS ks b r e).map .str)))) (w := some (.d (.lst (partsD ks b r e))))
  have s1 := snd_lc (u := some (.d (.str (Txt.join "\n" (linesS ks b r e))))) (v := some (.d (.lst ((linesS ks b r e).map .str)))) (w := some (.d (.lst (partsD ks b r e)))) (x := some (.d (.int ks.length))) (ks.map fun k => ((D.str "kind", kD k) : D × D))
  have s2 := snd_lc (u := some (.d (.str (Txt.join "\n" (linesS ks b r e))))) (v := some (.d (.lst ((linesS ks b r e).map .str)))) (w := some (.d (.lst (partsD ks b r e)))) (x := some (.d (.int ks.length))) [((D.str "begin", ptD b) : D × D), (.str "round", ptD r), (.str "end", ptD e)]
  simp only [roadD, ksD] at h1
  simp [Function.comp_def] at hc1 hc2 s1 s2
  simp [F_read_road, m_read_road, Mir.seqM, Mir.retM, Mir.retNM, Mir.drpM, Mir.asgM, Mir.ifM, Mir.toS, Mir.namG, Mir.tupG, Mir.allG, Mir.lsuG, Mir.varM, Mir.conM, Mir.op2M, Mir.op1M, Mir.tstM, Mir.andM, Mir.orM, Mir.notM, Mir.andT, Mir.orT, Mir.notT, Mir.iteM, Mir.chM, Mir.biM, Mir.isM, Mir.callM, Mir.callC, Mir.callN, Mir.argsM, Mir.O.bind, Mir.rd, Mir.rds, Mir.pures, Mir.tupM, Mir.lstM, Mir.nlsM, Mir.slM, Mir.noP, Mir.someP, Mir.lcM, Mir.nlcM, Mir.wipeE, Mir.seqI, Mir.rng1I, Mir.rng2I, Mir.zpBI, Mir.seqU, Mir.strI, Mir.forM, Mir.setM, Mir.setC, Mir.parsM, Mir.setUs, Mir.meM, Mir.joinG, Mir.lenG, Mir.intG, Mir.strG, Mir.listG, Mir.tupleG, Mir.isdic, Mir.isE, Mir.ixG, Mir.addG, Mir.mulG, Mir.mulOk, Mir.fdivG, Mir.modG, Mir.powG, Mir.negG, Mir.ltG, Mir.leG, Mir.gtG, Mir.geG, Mir.isG, Mir.isNotG, Mir.isNon, Mir.env0, Mir.ins1, Mir.run0, Mir.run1, Mir.runN, Mir.frz, Mir.nxtM, Mir.unM, Mir.appM, Mir.isLst, Mir.kmIx, Mir.kmIn, Mir.scpM, Mir.lowU, L2.atI, L2.ixN, h2, hl, h3, h4, hpb, hm, big, hi1, w1, hi2, flat_rep, K_WORDS, hkl, hkl2, hn, hc1, hc2, s1, s2, h1, roadD, ksD, Function.comp_def]

def r3 (r : List Int) : List D := (List.replicate 3 (r.map D.int)).flatten
theorem r3_eq (r : List Int) : r3 r = r.map .int ++ (r.map .int ++ r.map .int) := by simp [r3, List.replicate_succ]
theorem cells3 {ks : List (D × D)} {b r e : List Int} (R : Road ks b r e 4) : F_cells [roadD ks b r e, .int 3] = .ok (.tup (b.map .int ++ r3 r ++ e.map .int)) := by
  have h1 := isroad_ok R (by omega)
  have h2 := isnum_ok (i := 3) (lo := 0) (hi := 1000000000000000000000000000000) (by omega)
  have l1 := R.bl
  have l2 := R.rl
  have l3 := R.el
  have l4 := R.r1
  have hr : r ≠ [] := by intro z; rw [z] at l4; simp at l4
  have hr2 : r.length ≤ 1000 := by omega
  have a1 : ¬ (200 < (b.length : Int) + 3 * r.length + e.length) := by omega
  have a2 : b.length + (r.length + (r.length + r.length)) ≤ 1000000 := by omega
  have a3 : b.length + (r.length + (r.length + r.length)) + e.length ≤ 1000000 := by omega
  simp only [roadD, ptD] at h1 ⊢
  simp [F_cells, m_cells, F_need_road, m_need_road, F_need_number, m_need_number, F_length_of, m_length_of, F_cells_of, m_cells_of, Mir.seqM, Mir.retM, Mir.retNM, Mir.drpM, Mir.asgM, Mir.ifM, Mir.toS, Mir.namG, Mir.tupG, Mir.allG, Mir.lsuG, Mir.varM, Mir.conM, Mir.op2M, Mir.op1M, Mir.tstM, Mir.andM, Mir.orM, Mir.notM, Mir.andT, Mir.orT, Mir.notT, Mir.iteM, Mir.chM, Mir.biM, Mir.isM, Mir.callM, Mir.callC, Mir.callN, Mir.argsM, Mir.O.bind, Mir.rd, Mir.rds, Mir.pures, Mir.tupM, Mir.lstM, Mir.nlsM, Mir.slM, Mir.noP, Mir.someP, Mir.slG, Mir.lcM, Mir.nlcM, Mir.wipeE, Mir.seqI, Mir.rng1I, Mir.rng2I, Mir.zpBI, Mir.seqU, Mir.strI, Mir.forM, Mir.setM, Mir.setC, Mir.parsM, Mir.setUs, Mir.meM, Mir.joinG, Mir.splG, Mir.lenG, Mir.intG, Mir.strG, Mir.listG, Mir.tupleG, Mir.isdic, Mir.isE, Mir.ixG, Mir.addG, Mir.subG, Mir.mulG, Mir.mulOk, Mir.fdivG, Mir.modG, Mir.powG, Mir.negG, Mir.ltG, Mir.leG, Mir.gtG, Mir.geG, Mir.isG, Mir.isNotG, Mir.isNon, Mir.env0, Mir.ins1, Mir.run0, Mir.run1, Mir.runN, Mir.frz, Mir.nxtM, Mir.unM, Mir.appM, Mir.isLst, Mir.kmIx, Mir.kmIn, Mir.scpM, Mir.lowU, L2.atI, L2.ixN, h1, h2, ptD, K_MOST, K_MANY, big, hr, hr2, a1, a2, a3, r3_eq]

/-- the cells, put together -/
def wholeD (b r e : List Int) : D := .tup (b.map .int ++ r3 r ++ e.map .int)
theorem whole_cl (b r e : List Int) : cl 1 (wholeD b r e) = true := by
  have : wholeD b r e = .tup ((b ++ (List.replicate 3 r).flatten ++ e).map D.int) := by simp [wholeD, r3_eq, List.replicate_succ]
  rw [this]
  exact cl_ints _
theorem road_cl {ks : List (D × D)} {b r e : List Int} {n : Nat} (R : Road ks b r e n) : cl 5 (roadD ks b r e) = true := by
  have pt : ∀ c : List Int, cl 4 (ptD c) = true := fun c => cl_up (n := 1) (by decide) (cl_ints c)
  have k : cl 4 (ksD ks) = true := by
    show cls 3 _ = true
    refine cls_all fun x hx => ?_
    obtain ⟨k, hk, rfl⟩ := List.mem_map.mp hx
    exact cl_up (m := 3) (by decide) (kD_cl (R.ko k hk))
  show cls 4 _ = true
  simp [cls, k, pt]
def shortT (x : Str) : Bool := PyData.strOk x
theorem joinL_mem {s : List Nat} {c : Nat} : ∀ {ps : List (List Nat)}, c ∈ TL.joinL s ps → c ∈ s ∨ ∃ p ∈ ps, c ∈ p
  | [], h => by simp [TL.joinL] at h
  | [p], h => .inr ⟨p, by simp, h⟩
  | p :: q :: ps, h => by
    simp only [TL.joinL, List.mem_append] at h
    rcases h with h | h | h
    · exact .inr ⟨p, by simp, h⟩
    · exact .inl h
    · rcases joinL_mem h with h | ⟨x, h1, h2⟩
      · exact .inl h
      · exact .inr ⟨x, List.mem_cons_of_mem _ h1, h2⟩
theorem text_str {ks : List (D × D)} {b r e : List Int} {n : Nat} (R : Road ks b r e n) (hb : b ∈ allRows) (hr : r ∈ allRows) (he : e ∈ allRows) : PyData.strOk (Txt.join "\n" (linesS ks b r e)) = true := by
  unfold PyData.strOk
  rw [← Array.all_toList, List.all_eq_true]
  intro c hc
  have hc' : c ∈ TL.tl (Txt.join "\n" (linesS ks b r e)) := hc
  rw [TL.join_eq, TL.tl_join] at hc'
  rcases joinL_mem hc' with h | ⟨p, h1, h2⟩
  · have h' : c ∈ [10] := h
    have : c = 10 := by simpa using h'
    rw [this]; decide
  · obtain ⟨x, hx, rfl⟩ := List.mem_map.mp h1
    have h := lines_short R hb hr he x hx
    unfold short at h
    simp only [Bool.and_eq_true] at h
    have h3 := h.1.2
    rw [← Array.all_toList, List.all_eq_true] at h3
    have := h3 c h2
    simp at this ⊢
    omega
theorem row_mem {ks : List (D × D)} {c : List Int} (h4 : ks.length ≤ 4) (hl : c.length ≤ 4) (h : ∀ i ∈ c, 0 ≤ i ∧ i < ks.length) : c ∈ allRows :=
  allRows_mem (fun i hi => by have := h i hi; omega) hl
def bodyT : MS :=
  ((seqM (asgM (callC 0 F__law_road [(varM 4), (conM (.int 4))]) (namG 6))
    (seqM (asgM (joiM (conM (.str "\n")) (callM F__law_lines [(varM 6)])) (namG 2))
    (seqM (ifM (orT (tstM (op2M neG (callM F_road_text [(varM 6)]) (varM 2))) (orT (tstM (op2M neG (callM F_read_road [(varM 2)]) (varM 6))) (notT (tstM (callM F_is_road [(callM F_read_road [(varM 2)])]))))) (retM (conM (.bl false))) nxtM)
    (ifM (tstM (op2M neG (callM F_cells [(callM F_read_road [(varM 2)]), (conM (.int 3))]) (op2M addG (op2M addG (op2M ixG (varM 6) (conM (.int 1))) (op2M mulG (op2M ixG (varM 6) (conM (.int 2))) (conM (.int 3)))) (op2M ixG (varM 6) (conM (.int 3)))))) (retM (conM (.bl false))) nxtM)))))
def dd (x : Option D) : Option U := x.map .d
theorem low_dd {n : Nat} {x : Option D} : lowU n (dd x) = true := by cases x <;> rfl
/-- one turn of the inner loop -/
def Tn (ns : List Int) (cell : Int) (ρ : Mir.Env) (S : Sto) : Prop := ∃ (x2 x3 x5 x6 : Option D) (c : Cell), ρ = [some (.d (.scr ns)), some (.d (.int cell)), dd x2, dd x3, some (.c 0), dd x5, dd x6] ∧ S = [c] ∧ Sk c
theorem turn_ok {ns : List Int} {cell : Int} {d : D} {ρ : Mir.Env} {S : Sto} (h : Tn ns cell ρ S) : ∃ ρ' S', bodyT (ρ.set 5 (some (.d d))) S = .nx ρ' S' ∧ Tn ns cell ρ' S' := by
  obtain ⟨x2, x3, x5, x6, c, rfl, rfl, hc⟩ := h
  obtain ⟨ks, b, r, e, c', g1, g2, R⟩ := road_ok hc (most := 4) (by omega) (by omega)
  have hb := row_mem R.k4 R.bl R.bi
  have hr := row_mem R.k4 R.rl R.ri
  have he := row_mem R.k4 R.el R.ei
  have h1 := isroad_ok R (by omega)
  have h2 := lines_law R hb hr he
  have h3 := text_ok R hb hr he
  have h4 := read_ok R hb hr he
  have h5 := cells3 R
  have h6 : joinG (.str "\n") [.lst ((linesS ks b r e).map .str)] = some (.str (Txt.join "\n" (linesS ks b r e))) := by
    have := text_len R hb hr he
    simp only [joinG, strsOf_map]
    rw [if_pos (by unfold big; omega)]
  have n1 : neG (.str (Txt.join "\n" (linesS ks b r e))) (.str (Txt.join "\n" (linesS ks b r e))) = some (.bl false) := neG_refl (n := 1) (by simpa [cl] using text_str R hb hr he)
  have n2 := neG_refl (road_cl R)
  have n3 := neG_refl (whole_cl b r e)
  have l4 := R.r1
  have l1 := R.bl
  have l2 := R.rl
  have l3 := R.el
  have hrn : r ≠ [] := by intro z; rw [z] at l4; simp at l4
  have hr2 : r.length ≤ 1000 := by omega
  have a2 : b.length + (r.length + (r.length + r.length)) ≤ 1000000 := by omega
  have a3 : b.length + (r.length + (r.length + r.length)) + e.length ≤ 1000000 := by omega
  refine ⟨[some (.d (.scr ns)), some (.d (.int cell)), some (.d (.str (Txt.join "\n" (linesS ks b r e)))), dd x3, some (.c 0), some (.d d), some (.d (roadD ks b r e))], [c'], ?_, some _, x3, some _, some _, _, rfl, rfl, g2⟩
  have g1' : F__law_road [.int 4] c = .ok (roadD ks b r e) c' := g1
  have hw : wholeD b r e = .tup (b.map .int ++ r3 r ++ e.map .int) := rfl
  have ix1 : ixG (roadD ks b r e) (.int 1) = some (ptD b) := rfl
  have ix2 : ixG (roadD ks b r e) (.int 2) = some (ptD r) := rfl
  have ix3 : ixG (roadD ks b r e) (.int 3) = some (ptD e) := rfl
  have m1 : mulG (ptD r) (.int 3) = some (.tup (r3 r)) := by
    simp [mulG, ptD, hrn, hr2, r3_eq]
  have m2 : addG (ptD b) (.tup (r3 r)) = some (.tup (b.map .int ++ r3 r)) := by
    simp [addG, ptD, big, a2, r3_eq]
  have m3 : addG (.tup (b.map .int ++ r3 r)) (ptD e) = some (wholeD b r e) := by
    simp [addG, ptD, big, a3, wholeD, r3_eq]
  rw [← hw] at h5
  simp [bodyT, Mir.seqM, Mir.retM, Mir.retNM, Mir.drpM, Mir.asgM, Mir.ifM, Mir.toS, Mir.namG, Mir.tupG, Mir.allG, Mir.lsuG, Mir.varM, Mir.conM, Mir.op2M, Mir.op1M, Mir.tstM, Mir.andM, Mir.orM, Mir.notM, Mir.andT, Mir.orT, Mir.notT, Mir.iteM, Mir.chM, Mir.biM, Mir.isM, Mir.callM, Mir.callC, Mir.callN, Mir.argsM, Mir.O.bind, Mir.rd, Mir.rds, Mir.pures, Mir.tupM, Mir.lstM, Mir.nlsM, Mir.slM, Mir.noP, Mir.someP, Mir.slG, Mir.lcM, Mir.nlcM, Mir.wipeE, Mir.seqI, Mir.rng1I, Mir.rng2I, Mir.zpBI, Mir.seqU, Mir.strI, Mir.forM, Mir.setM, Mir.setC, Mir.parsM, Mir.setUs, Mir.meM, Mir.splG, Mir.lenG, Mir.intG, Mir.strG, Mir.listG, Mir.tupleG, Mir.isdic, Mir.isE, Mir.subG, Mir.mulOk, Mir.fdivG, Mir.modG, Mir.powG, Mir.negG, Mir.ltG, Mir.leG, Mir.gtG, Mir.geG, Mir.isG, Mir.isNotG, Mir.isNon, Mir.env0, Mir.ins1, Mir.run0, Mir.run1, Mir.runN, Mir.frz, Mir.nxtM, Mir.unM, Mir.appM, Mir.isLst, Mir.kmIx, Mir.kmIn, Mir.scpM, Mir.lowU, g1', h1, h2, h3, h4, h5, h6, n1, n2, n3, F_is_road, m_is_road, ix1, ix2, ix3, m1, m2, m3]
theorem end_chk : (isOk (F_read_road [.str "kind lrs -\nkind - s\nbegin -\nround 01\nend 110"]) (.tup [.tup [.tup [.tup [Lf, Rt, St'], .tup []], .tup [.tup [], .tup [St']]], .tup [], .tup [.int 0, .int 1], .tup [.int 1, .int 1, .int 0]]) &&
  isOk (F_road_text [.tup [.tup [.tup [.tup [Lf, Rt, St'], .tup []], .tup [.tup [], .tup [St']]], .tup [], .tup [.int 0, .int 1], .tup [.int 1, .int 1, .int 0]]]) (.str "kind lrs -\nkind - s\nbegin -\nround 01\nend 110")) = true := by decide +kernel
theorem law_true (ns : List Int) (hns : ns.length ≤ 63) : F_law [.scr ns] = .ok (.bl true) := by
  have hadd : addG (.lst [.int 0]) (.scr ns) = some (.lst (.int 0 :: ns.map D.int)) := by
    have : 1 + ns.length ≤ big := by unfold big; omega
    simp [addG, this]
  have hcut : slG (.lst (.int 0 :: ns.map D.int)) none (some 10) = some (.lst (.int 0 :: (ns.map D.int).take 9)) := by
    simp only [slG, cutL, HT.sIx, List.drop_zero, Nat.sub_zero, List.length_cons]
    rw [if_neg (by decide)]
    have h10 : (10 : Int).toNat = 10 := rfl
    rw [h10]
    rcases Nat.le_total 10 ((ns.map D.int).length + 1) with h | h
    · rw [Nat.min_eq_left h]; rfl
    · rw [Nat.min_eq_right h, List.take_of_length_le (by simp), List.take_of_length_le (by omega)]
  have inner : ∀ (cell : Int) (ρ : Mir.Env) (S : Sto), Tn ns cell ρ S → ∀ ds : List D, ∃ ρ' S', forL (namG 5) bodyT ds ρ S = .nx ρ' S' ∧ Tn ns cell ρ' S' := fun cell ρ S h ds =>
    forL_inv (Tn ns cell) ds ρ S (fun d _ ρ S hI => by
      obtain ⟨ρ', S', h1, h2⟩ := turn_ok (d := d) hI
      exact ⟨_, ρ', S', rfl, .inl h1, h2⟩) h
  have outer := forL_inv (g := namG 1) (f := scpM [4] (seqM (asgM (callN F__law_sack [(varM 1), (conM (.int 75))]) (namG 4)) (Mir.forM (rng1I (conM (.int 4))) (namG 5) bodyT)))
    (fun ρ S => ∃ x1 x2 x3 x5 x6 : Option D, ρ = [some (.d (.scr ns)), dd x1, dd x2, dd x3, none, dd x5, dd x6] ∧ S = []) (.int 0 :: (ns.map D.int).take 9) [some (.d (.scr ns)), none, none, none, none, none, none] []
    (fun d hd ρ S ⟨x1, x2, x3, x5, x6, e1, e2⟩ => by
      subst e1 e2
      obtain ⟨i, rfl⟩ : ∃ i : Int, d = .int i := by
        rcases List.mem_cons.mp hd with z | z
        · exact ⟨0, z⟩
        · obtain ⟨i, _, h⟩ := List.mem_map.mp (List.mem_of_mem_take z)
          exact ⟨i, h.symm⟩
      obtain ⟨c, g1, g2⟩ := sack_ok i 75
      obtain ⟨ρ', S', h1, y2, y3, y5, y6, c', rfl, rfl, h2⟩ := inner i [some (.d (.scr ns)), some (.d (.int i)), dd x2, dd x3, some (.c 0), dd x5, dd x6] [c] ⟨x2, x3, x5, x6, c, rfl, rfl, g2⟩ [.int 0, .int 1, .int 2, .int 3]
      refine ⟨_, [some (.d (.scr ns)), some (.d (.int i)), dd y2, dd y3, none, dd y5, dd y6], [], rfl, .inl ?_, some (.int i), y2, y3, y5, y6, rfl, rfl⟩
      simp [Mir.seqM, Mir.retM, Mir.retNM, Mir.drpM, Mir.asgM, Mir.ifM, Mir.toS, Mir.namG, Mir.tupG, Mir.allG, Mir.lsuG, Mir.varM, Mir.conM, Mir.op2M, Mir.op1M, Mir.tstM, Mir.andM, Mir.orM, Mir.notM, Mir.andT, Mir.orT, Mir.notT, Mir.iteM, Mir.chM, Mir.biM, Mir.isM, Mir.callM, Mir.callC, Mir.callN, Mir.argsM, Mir.O.bind, Mir.rd, Mir.rds, Mir.pures, Mir.tupM, Mir.lstM, Mir.nlsM, Mir.slM, Mir.noP, Mir.someP, Mir.slG, Mir.lcM, Mir.nlcM, Mir.wipeE, Mir.seqI, Mir.rng1I, Mir.rng2I, Mir.zpBI, Mir.seqU, Mir.strI, Mir.forM, Mir.setM, Mir.setC, Mir.parsM, Mir.setUs, Mir.meM, Mir.joinG, Mir.splG, Mir.lenG, Mir.intG, Mir.strG, Mir.listG, Mir.tupleG, Mir.isdic, Mir.isE, Mir.ixG, Mir.addG, Mir.subG, Mir.mulG, Mir.mulOk, Mir.fdivG, Mir.modG, Mir.powG, Mir.negG, Mir.ltG, Mir.leG, Mir.gtG, Mir.geG, Mir.isG, Mir.isNotG, Mir.isNon, Mir.env0, Mir.ins1, Mir.run0, Mir.run1, Mir.runN, Mir.frz, Mir.nxtM, Mir.unM, Mir.appM, Mir.isLst, Mir.kmIx, Mir.kmIn, Mir.scpM, g1, List.range, List.range.loop, h1, low_dd]
      exact ⟨rfl, rfl, rfl⟩)
    ⟨none, none, none, none, none, rfl, rfl⟩
  obtain ⟨ρ', S', h1, x1, x2, x3, x5, x6, rfl, rfl⟩ := outer
  have hend := end_chk
  simp only [Bool.and_eq_true] at hend
  have e1 := isOk_eq hend.1
  have e2 := isOk_eq hend.2
  have hbody : m_law = seqM (Mir.forM (seqI (slM (op2M addG (lstM [(conM (.int 0))]) (varM 0)) noP (someP (conM (.int 10))))) (namG 1) (scpM [4] (seqM (asgM (callN F__law_sack [(varM 1), (conM (.int 75))]) (namG 4)) (Mir.forM (rng1I (conM (.int 4))) (namG 5) bodyT))))
    (seqM (asgM (conM (.str "kind lrs -\nkind - s\nbegin -\nround 01\nend 110")) (namG 2))
    (seqM (asgM (tupM [(tupM [(tupM [(tupM [(conM (.str "left")), (conM (.str "right")), (conM (.str "stay"))]), (tupM [])]), (tupM [(tupM []), (tupM [(conM (.str "stay"))])])]), (tupM []), (tupM [(conM (.int 0)), (conM (.int 1))]), (tupM [(conM (.int 1)), (conM (.int 1)), (conM (.int 0))])]) (namG 3))
    (retM (andM (op2M eqG (callM F_read_road [(varM 2)]) (varM 3)) (op2M eqG (callM F_road_text [(varM 3)]) (varM 2)))))) := rfl
  unfold Lf Rt St' at e1 e2
  have q1 : eqG (.tup [.tup [.tup [.tup [.str "left", .str "right", .str "stay"], .tup []], .tup [.tup [], .tup [.str "stay"]]], .tup [], .tup [.int 0, .int 1], .tup [.int 1, .int 1, .int 0]]) (.tup [.tup [.tup [.tup [.str "left", .str "right", .str "stay"], .tup []], .tup [.tup [], .tup [.str "stay"]]], .tup [], .tup [.int 0, .int 1], .tup [.int 1, .int 1, .int 0]]) = some (.bl true) := eqG_refl (n := 9) (by decide +kernel)
  have q2 : eqG (.str "kind lrs -\nkind - s\nbegin -\nround 01\nend 110") (.str "kind lrs -\nkind - s\nbegin -\nround 01\nend 110") = some (.bl true) := eqG_refl (n := 9) (by decide +kernel)
  simp [F_law, hbody, Mir.seqM, Mir.retM, Mir.retNM, Mir.drpM, Mir.asgM, Mir.ifM, Mir.toS, Mir.namG, Mir.tupG, Mir.allG, Mir.lsuG, Mir.varM, Mir.conM, Mir.op2M, Mir.op1M, Mir.tstM, Mir.andM, Mir.orM, Mir.notM, Mir.andT, Mir.orT, Mir.notT, Mir.iteM, Mir.chM, Mir.biM, Mir.isM, Mir.callM, Mir.callC, Mir.callN, Mir.argsM, Mir.O.bind, Mir.rd, Mir.rds, Mir.pures, Mir.tupM, Mir.lstM, Mir.nlsM, Mir.slM, Mir.noP, Mir.someP, Mir.lcM, Mir.nlcM, Mir.wipeE, Mir.seqI, Mir.rng1I, Mir.rng2I, Mir.zpBI, Mir.seqU, Mir.strI, Mir.forM, Mir.setM, Mir.setC, Mir.parsM, Mir.setUs, Mir.meM, Mir.joinG, Mir.splG, Mir.lenG, Mir.intG, Mir.strG, Mir.listG, Mir.tupleG, Mir.isdic, Mir.isE, Mir.ixG, Mir.subG, Mir.mulG, Mir.mulOk, Mir.fdivG, Mir.modG, Mir.powG, Mir.negG, Mir.ltG, Mir.leG, Mir.gtG, Mir.geG, Mir.isG, Mir.isNotG, Mir.isNon, Mir.env0, Mir.ins1, Mir.run0, Mir.run1, Mir.runN, Mir.frz, Mir.nxtM, Mir.unM, Mir.appM, Mir.isLst, Mir.kmIx, Mir.kmIn, Mir.lowU, hadd, hcut, h1, e1, e2, q1, q2]

/-! ### what the top has left; the law -/
theorem all_mk {l : PySem.W.OpenLaw} {w : World} {K : PySem.W.Frag} {h : Heap} {mg : Str → Option Value} {fa : Addr} (X : K.In h) (G : h.Ns mainGlobals mg) (hfa : mg "law" = some (.ref fa))
    {f0 : Addr} {od0 an0 : Option Addr} {sl0 : Array (Option Value)} {oc0 kV0 dc0 pm0 cd0 ct0 : Value}
    {f1 : Addr} {od1 an1 : Option Addr} {sl1 : Array (Option Value)} {oc1 kV1 dc1 pm1 cd1 ct1 : Value}
    {f2 : Addr} {od2 an2 : Option Addr} {sl2 : Array (Option Value)} {oc2 kV2 dc2 pm2 cd2 ct2 : Value}
    {f3 : Addr} {od3 an3 : Option Addr} {sl3 : Array (Option Value)} {oc3 kV3 dc3 pm3 cd3 ct3 : Value}
    {f4 : Addr} {od4 an4 : Option Addr} {sl4 : Array (Option Value)} {oc4 kV4 dc4 pm4 cd4 ct4 : Value}
    {f5 : Addr} {od5 an5 : Option Addr} {sl5 : Array (Option Value)} {oc5 kV5 dc5 pm5 cd5 ct5 : Value}
    {f6 : Addr} {od6 an6 : Option Addr} {sl6 : Array (Option Value)} {oc6 kV6 dc6 pm6 cd6 ct6 : Value}
    {f7 : Addr} {od7 an7 : Option Addr} {sl7 : Array (Option Value)} {oc7 kV7 dc7 pm7 cd7 ct7 : Value}
    {f8 : Addr} {od8 an8 : Option Addr} {sl8 : Array (Option Value)} {oc8 kV8 dc8 pm8 cd8 ct8 : Value}
    {f9 : Addr} {od9 an9 : Option Addr} {sl9 : Array (Option Value)} {oc9 kV9 dc9 pm9 cd9 ct9 : Value}
    {f10 : Addr} {od10 an10 : Option Addr} {sl10 : Array (Option Value)} {oc10 kV10 dc10 pm10 cd10 ct10 : Value}
    {f11 : Addr} {od11 an11 : Option Addr} {sl11 : Array (Option Value)} {oc11 kV11 dc11 pm11 cd11 ct11 : Value}
    {f12 : Addr} {od12 an12 : Option Addr} {sl12 : Array (Option Value)} {oc12 kV12 dc12 pm12 cd12 ct12 : Value}
    {f13 : Addr} {od13 an13 : Option Addr} {sl13 : Array (Option Value)} {oc13 kV13 dc13 pm13 cd13 ct13 : Value}
    {f14 : Addr} {od14 an14 : Option Addr} {sl14 : Array (Option Value)} {oc14 kV14 dc14 pm14 cd14 ct14 : Value}
    {f15 : Addr} {od15 an15 : Option Addr} {sl15 : Array (Option Value)} {oc15 kV15 dc15 pm15 cd15 ct15 : Value}
    {f16 : Addr} {od16 an16 : Option Addr} {sl16 : Array (Option Value)} {oc16 kV16 dc16 pm16 cd16 ct16 : Value}
    {f17 : Addr} {od17 an17 : Option Addr} {sl17 : Array (Option Value)} {oc17 kV17 dc17 pm17 cd17 ct17 : Value}
    {f18 : Addr} {od18 an18 : Option Addr} {sl18 : Array (Option Value)} {oc18 kV18 dc18 pm18 cd18 ct18 : Value}
    {f19 : Addr} {od19 an19 : Option Addr} {sl19 : Array (Option Value)} {oc19 kV19 dc19 pm19 cd19 ct19 : Value}
    {f20 : Addr} {od20 an20 : Option Addr} {sl20 : Array (Option Value)} {oc20 kV20 dc20 pm20 cd20 ct20 : Value}
    {f21 : Addr} {od21 an21 : Option Addr} {sl21 : Array (Option Value)} {oc21 kV21 dc21 pm21 cd21 ct21 : Value}
    {f22 : Addr} {od22 an22 : Option Addr} {sl22 : Array (Option Value)} {oc22 kV22 dc22 pm22 cd22 ct22 : Value}
    {f23 : Addr} {od23 an23 : Option Addr} {sl23 : Array (Option Value)} {oc23 kV23 dc23 pm23 cd23 ct23 : Value}
    {f24 : Addr} {od24 an24 : Option Addr} {sl24 : Array (Option Value)} {oc24 kV24 dc24 pm24 cd24 ct24 : Value}
    {f25 : Addr} {od25 an25 : Option Addr} {sl25 : Array (Option Value)} {oc25 kV25 dc25 pm25 cd25 ct25 : Value}
    {f26 : Addr} {od26 an26 : Option Addr} {sl26 : Array (Option Value)} {oc26 kV26 dc26 pm26 cd26 ct26 : Value}
    {f27 : Addr} {od27 an27 : Option Addr} {sl27 : Array (Option Value)} {oc27 kV27 dc27 pm27 cd27 ct27 : Value}
    {f28 : Addr} {od28 an28 : Option Addr} {sl28 : Array (Option Value)} {oc28 kV28 dc28 pm28 cd28 ct28 : Value}
    {u_MANY : Value}
    {u_MOST : Value}
    {u_WAYS : Value}
    {u_WORDS : Value}
    {a_LETTERS : Addr} {e_LETTERS : Array DictEntry} {m_LETTERS : Nat}
    (a0 : PySem.W.nsIn K mainGlobals "is_number" = some (some (.ref f0))) (l0 : K.lookup f0 = some ⟨oc0, od0, .func (PySem.W.fnOf "is_number" "is_number" (defArgs s_is_number) (defBody s_is_number) (defScope s_is_number) .none kV0 dc0 pm0 an0 cd0 ct0), sl0⟩) (c0 : PySem.W.codeIn K cd0 "is_number" = true) (k0 : PySem.W.keepIn K (.ref f0) = true)
    (a1 : PySem.W.nsIn K mainGlobals "are_ways" = some (some (.ref f1))) (l1 : K.lookup f1 = some ⟨oc1, od1, .func (PySem.W.fnOf "are_ways" "are_ways" (defArgs s_are_ways) (defBody s_are_ways) (defScope s_are_ways) .none kV1 dc1 pm1 an1 cd1 ct1), sl1⟩) (c1 : PySem.W.codeIn K cd1 "are_ways" = true) (k1 : PySem.W.keepIn K (.ref f1) = true)
    (a2 : PySem.W.nsIn K mainGlobals "is_kind" = some (some (.ref f2))) (l2 : K.lookup f2 = some ⟨oc2, od2, .func (PySem.W.fnOf "is_kind" "is_kind" (defArgs s_is_kind) (defBody s_is_kind) (defScope s_is_kind) .none kV2 dc2 pm2 an2 cd2 ct2), sl2⟩) (c2 : PySem.W.codeIn K cd2 "is_kind" = true) (k2 : PySem.W.keepIn K (.ref f2) = true)
    (a3 : PySem.W.nsIn K mainGlobals "are_kinds" = some (some (.ref f3))) (l3 : K.lookup f3 = some ⟨oc3, od3, .func (PySem.W.fnOf "are_kinds" "are_kinds" (defArgs s_are_kinds) (defBody s_are_kinds) (defScope s_are_kinds) .none kV3 dc3 pm3 an3 cd3 ct3), sl3⟩) (c3 : PySem.W.codeIn K cd3 "are_kinds" = true) (k3 : PySem.W.keepIn K (.ref f3) = true)
    (a4 : PySem.W.nsIn K mainGlobals "is_stretch_of" = some (some (.ref f4))) (l4 : K.lookup f4 = some ⟨oc4, od4, .func (PySem.W.fnOf "is_stretch_of" "is_stretch_of" (defArgs s_is_stretch_of) (defBody s_is_stretch_of) (defScope s_is_stretch_of) .none kV4 dc4 pm4 an4 cd4 ct4), sl4⟩) (c4 : PySem.W.codeIn K cd4 "is_stretch_of" = true) (k4 : PySem.W.keepIn K (.ref f4) = true)
    (a5 : PySem.W.nsIn K mainGlobals "is_road_of" = some (some (.ref f5))) (l5 : K.lookup f5 = some ⟨oc5, od5, .func (PySem.W.fnOf "is_road_of" "is_road_of" (defArgs s_is_road_of) (defBody s_is_road_of) (defScope s_is_road_of) .none kV5 dc5 pm5 an5 cd5 ct5), sl5⟩) (c5 : PySem.W.codeIn K cd5 "is_road_of" = true) (k5 : PySem.W.keepIn K (.ref f5) = true)
    (a6 : PySem.W.nsIn K mainGlobals "need_road" = some (some (.ref f6))) (l6 : K.lookup f6 = some ⟨oc6, od6, .func (PySem.W.fnOf "need_road" "need_road" (defArgs s_need_road) (defBody s_need_road) (defScope s_need_road) .none kV6 dc6 pm6 an6 cd6 ct6), sl6⟩) (c6 : PySem.W.codeIn K cd6 "need_road" = true) (k6 : PySem.W.keepIn K (.ref f6) = true)
    (a7 : PySem.W.nsIn K mainGlobals "need_number" = some (some (.ref f7))) (l7 : K.lookup f7 = some ⟨oc7, od7, .func (PySem.W.fnOf "need_number" "need_number" (defArgs s_need_number) (defBody s_need_number) (defScope s_need_number) .none kV7 dc7 pm7 an7 cd7 ct7), sl7⟩) (c7 : PySem.W.codeIn K cd7 "need_number" = true) (k7 : PySem.W.keepIn K (.ref f7) = true)
    (a8 : PySem.W.nsIn K mainGlobals "length_of" = some (some (.ref f8))) (l8 : K.lookup f8 = some ⟨oc8, od8, .func (PySem.W.fnOf "length_of" "length_of" (defArgs s_length_of) (defBody s_length_of) (defScope s_length_of) .none kV8 dc8 pm8 an8 cd8 ct8), sl8⟩) (c8 : PySem.W.codeIn K cd8 "length_of" = true) (k8 : PySem.W.keepIn K (.ref f8) = true)
    (a9 : PySem.W.nsIn K mainGlobals "cells_of" = some (some (.ref f9))) (l9 : K.lookup f9 = some ⟨oc9, od9, .func (PySem.W.fnOf "cells_of" "cells_of" (defArgs s_cells_of) (defBody s_cells_of) (defScope s_cells_of) .none kV9 dc9 pm9 an9 cd9 ct9), sl9⟩) (c9 : PySem.W.codeIn K cd9 "cells_of" = true) (k9 : PySem.W.keepIn K (.ref f9) = true)
    (a10 : PySem.W.nsIn K mainGlobals "is_road" = some (some (.ref f10))) (l10 : K.lookup f10 = some ⟨oc10, od10, .func (PySem.W.fnOf "is_road" "is_road" (defArgs s_is_road) (defBody s_is_road) (defScope s_is_road) .none kV10 dc10 pm10 an10 cd10 ct10), sl10⟩) (c10 : PySem.W.codeIn K cd10 "is_road" = true) (k10 : PySem.W.keepIn K (.ref f10) = true)
    (a11 : PySem.W.nsIn K mainGlobals "cells" = some (some (.ref f11))) (l11 : K.lookup f11 = some ⟨oc11, od11, .func (PySem.W.fnOf "cells" "cells" (defArgs s_cells) (defBody s_cells) (defScope s_cells) .none kV11 dc11 pm11 an11 cd11 ct11), sl11⟩) (c11 : PySem.W.codeIn K cd11 "cells" = true) (k11 : PySem.W.keepIn K (.ref f11) = true)
    (a12 : PySem.W.nsIn K mainGlobals "ways_word" = some (some (.ref f12))) (l12 : K.lookup f12 = some ⟨oc12, od12, .func (PySem.W.fnOf "ways_word" "ways_word" (defArgs s_ways_word) (defBody s_ways_word) (defScope s_ways_word) .none kV12 dc12 pm12 an12 cd12 ct12), sl12⟩) (c12 : PySem.W.codeIn K cd12 "ways_word" = true) (k12 : PySem.W.keepIn K (.ref f12) = true)
    (a13 : PySem.W.nsIn K mainGlobals "cells_word" = some (some (.ref f13))) (l13 : K.lookup f13 = some ⟨oc13, od13, .func (PySem.W.fnOf "cells_word" "cells_word" (defArgs s_cells_word) (defBody s_cells_word) (defScope s_cells_word) .none kV13 dc13 pm13 an13 cd13 ct13), sl13⟩) (c13 : PySem.W.codeIn K cd13 "cells_word" = true) (k13 : PySem.W.keepIn K (.ref f13) = true)
    (a14 : PySem.W.nsIn K mainGlobals "road_lines" = some (some (.ref f14))) (l14 : K.lookup f14 = some ⟨oc14, od14, .func (PySem.W.fnOf "road_lines" "road_lines" (defArgs s_road_lines) (defBody s_road_lines) (defScope s_road_lines) .none kV14 dc14 pm14 an14 cd14 ct14), sl14⟩) (c14 : PySem.W.codeIn K cd14 "road_lines" = true) (k14 : PySem.W.keepIn K (.ref f14) = true)
    (a15 : PySem.W.nsIn K mainGlobals "ways_in" = some (some (.ref f15))) (l15 : K.lookup f15 = some ⟨oc15, od15, .func (PySem.W.fnOf "ways_in" "ways_in" (defArgs s_ways_in) (defBody s_ways_in) (defScope s_ways_in) .none kV15 dc15 pm15 an15 cd15 ct15), sl15⟩) (c15 : PySem.W.codeIn K cd15 "ways_in" = true) (k15 : PySem.W.keepIn K (.ref f15) = true)
    (a16 : PySem.W.nsIn K mainGlobals "part_in" = some (some (.ref f16))) (l16 : K.lookup f16 = some ⟨oc16, od16, .func (PySem.W.fnOf "part_in" "part_in" (defArgs s_part_in) (defBody s_part_in) (defScope s_part_in) .none kV16 dc16 pm16 an16 cd16 ct16), sl16⟩) (c16 : PySem.W.codeIn K cd16 "part_in" = true) (k16 : PySem.W.keepIn K (.ref f16) = true)
    (a17 : PySem.W.nsIn K mainGlobals "road_text" = some (some (.ref f17))) (l17 : K.lookup f17 = some ⟨oc17, od17, .func (PySem.W.fnOf "road_text" "road_text" (defArgs s_road_text) (defBody s_road_text) (defScope s_road_text) .none kV17 dc17 pm17 an17 cd17 ct17), sl17⟩) (c17 : PySem.W.codeIn K cd17 "road_text" = true) (k17 : PySem.W.keepIn K (.ref f17) = true)
    (a18 : PySem.W.nsIn K mainGlobals "read_road" = some (some (.ref f18))) (l18 : K.lookup f18 = some ⟨oc18, od18, .func (PySem.W.fnOf "read_road" "read_road" (defArgs s_read_road) (defBody s_read_road) (defScope s_read_road) .none kV18 dc18 pm18 an18 cd18 ct18), sl18⟩) (c18 : PySem.W.codeIn K cd18 "read_road" = true) (k18 : PySem.W.keepIn K (.ref f18) = true)
    (a19 : PySem.W.nsIn K mainGlobals "_law_sack" = some (some (.ref f19))) (l19 : K.lookup f19 = some ⟨oc19, od19, .func (PySem.W.fnOf "_law_sack" "_law_sack" (defArgs s__law_sack) (defBody s__law_sack) (defScope s__law_sack) .none kV19 dc19 pm19 an19 cd19 ct19), sl19⟩) (c19 : PySem.W.codeIn K cd19 "_law_sack" = true) (k19 : PySem.W.keepIn K (.ref f19) = true)
    (a20 : PySem.W.nsIn K mainGlobals "_law_grip" = some (some (.ref f20))) (l20 : K.lookup f20 = some ⟨oc20, od20, .func (PySem.W.fnOf "_law_grip" "_law_grip" (defArgs s__law_grip) (defBody s__law_grip) (defScope s__law_grip) .none kV20 dc20 pm20 an20 cd20 ct20), sl20⟩) (c20 : PySem.W.codeIn K cd20 "_law_grip" = true) (k20 : PySem.W.keepIn K (.ref f20) = true)
    (a21 : PySem.W.nsIn K mainGlobals "_law_pick" = some (some (.ref f21))) (l21 : K.lookup f21 = some ⟨oc21, od21, .func (PySem.W.fnOf "_law_pick" "_law_pick" (defArgs s__law_pick) (defBody s__law_pick) (defScope s__law_pick) .none kV21 dc21 pm21 an21 cd21 ct21), sl21⟩) (c21 : PySem.W.codeIn K cd21 "_law_pick" = true) (k21 : PySem.W.keepIn K (.ref f21) = true)
    (a22 : PySem.W.nsIn K mainGlobals "_law_ways" = some (some (.ref f22))) (l22 : K.lookup f22 = some ⟨oc22, od22, .func (PySem.W.fnOf "_law_ways" "_law_ways" (defArgs s__law_ways) (defBody s__law_ways) (defScope s__law_ways) .none kV22 dc22 pm22 an22 cd22 ct22), sl22⟩) (c22 : PySem.W.codeIn K cd22 "_law_ways" = true) (k22 : PySem.W.keepIn K (.ref f22) = true)
    (a23 : PySem.W.nsIn K mainGlobals "_law_kinds" = some (some (.ref f23))) (l23 : K.lookup f23 = some ⟨oc23, od23, .func (PySem.W.fnOf "_law_kinds" "_law_kinds" (defArgs s__law_kinds) (defBody s__law_kinds) (defScope s__law_kinds) .none kV23 dc23 pm23 an23 cd23 ct23), sl23⟩) (c23 : PySem.W.codeIn K cd23 "_law_kinds" = true) (k23 : PySem.W.keepIn K (.ref f23) = true)
    (a24 : PySem.W.nsIn K mainGlobals "_law_cells" = some (some (.ref f24))) (l24 : K.lookup f24 = some ⟨oc24, od24, .func (PySem.W.fnOf "_law_cells" "_law_cells" (defArgs s__law_cells) (defBody s__law_cells) (defScope s__law_cells) .none kV24 dc24 pm24 an24 cd24 ct24), sl24⟩) (c24 : PySem.W.codeIn K cd24 "_law_cells" = true) (k24 : PySem.W.keepIn K (.ref f24) = true)
    (a25 : PySem.W.nsIn K mainGlobals "_law_road" = some (some (.ref f25))) (l25 : K.lookup f25 = some ⟨oc25, od25, .func (PySem.W.fnOf "_law_road" "_law_road" (defArgs s__law_road) (defBody s__law_road) (defScope s__law_road) .none kV25 dc25 pm25 an25 cd25 ct25), sl25⟩) (c25 : PySem.W.codeIn K cd25 "_law_road" = true) (k25 : PySem.W.keepIn K (.ref f25) = true)
    (a26 : PySem.W.nsIn K mainGlobals "_law_word" = some (some (.ref f26))) (l26 : K.lookup f26 = some ⟨oc26, od26, .func (PySem.W.fnOf "_law_word" "_law_word" (defArgs s__law_word) (defBody s__law_word) (defScope s__law_word) .none kV26 dc26 pm26 an26 cd26 ct26), sl26⟩) (c26 : PySem.W.codeIn K cd26 "_law_word" = true) (k26 : PySem.W.keepIn K (.ref f26) = true)
    (a27 : PySem.W.nsIn K mainGlobals "_law_lines" = some (some (.ref f27))) (l27 : K.lookup f27 = some ⟨oc27, od27, .func (PySem.W.fnOf "_law_lines" "_law_lines" (defArgs s__law_lines) (defBody s__law_lines) (defScope s__law_lines) .none kV27 dc27 pm27 an27 cd27 ct27), sl27⟩) (c27 : PySem.W.codeIn K cd27 "_law_lines" = true) (k27 : PySem.W.keepIn K (.ref f27) = true)
    (a28 : PySem.W.nsIn K mainGlobals "law" = some (some (.ref f28))) (l28 : K.lookup f28 = some ⟨oc28, od28, .func (PySem.W.fnOf "law" "law" (defArgs s_law) (defBody s_law) (defScope s_law) .none kV28 dc28 pm28 an28 cd28 ct28), sl28⟩) (c28 : PySem.W.codeIn K cd28 "law" = true) (k28 : PySem.W.keepIn K (.ref f28) = true)
    (z_all : PySem.W.nsIn K mainGlobals "all" = some none)
    (z_bool : PySem.W.nsIn K mainGlobals "bool" = some none)
    (z_int : PySem.W.nsIn K mainGlobals "int" = some none)
    (z_isinstance : PySem.W.nsIn K mainGlobals "isinstance" = some none)
    (z_len : PySem.W.nsIn K mainGlobals "len" = some none)
    (z_list : PySem.W.nsIn K mainGlobals "list" = some none)
    (z_range : PySem.W.nsIn K mainGlobals "range" = some none)
    (z_str : PySem.W.nsIn K mainGlobals "str" = some none)
    (z_tuple : PySem.W.nsIn K mainGlobals "tuple" = some none)
    (z_zip : PySem.W.nsIn K mainGlobals "zip" = some none)
    (n_MANY : PySem.W.nsIn K mainGlobals "MANY" = some (some u_MANY))
    (v_MANY : KVal K K_MANY u_MANY)
    (n_MOST : PySem.W.nsIn K mainGlobals "MOST" = some (some u_MOST))
    (v_MOST : KVal K K_MOST u_MOST)
    (n_WAYS : PySem.W.nsIn K mainGlobals "WAYS" = some (some u_WAYS))
    (v_WAYS : KVal K K_WAYS u_WAYS)
    (n_WORDS : PySem.W.nsIn K mainGlobals "WORDS" = some (some u_WORDS))
    (v_WORDS : KVal K K_WORDS u_WORDS)
    (n_LETTERS : PySem.W.nsIn K mainGlobals "LETTERS" = some (some (.ref a_LETTERS))) (l_LETTERS : K.lookup a_LETTERS = some ⟨.type "dict", none, .dict e_LETTERS m_LETTERS, #[]⟩) (y_LETTERS : PySem.W.KeysLit w.params e_LETTERS.toList) (o_LETTERS : (a_LETTERS == sysModules) = false) (v_LETTERS : KEnts K T_LETTERS e_LETTERS.toList)
    : ∃ fd : FuncData, (∀ (s : Shared) (v : Value), BindsTo s fd ⟨[v], []⟩ [("script", v)]) ∧ ∀ base : Heap, K.In base → base.Ns mainGlobals mg → FnOk l.prog w K mg base (L2.CX l.prog w) 7 fa fd ["script"] (spLaw K) := by
  have e := hfa.symm.trans (PySem.W.mg_of X G a28)
  cases e
  refine ⟨PySem.W.fnOf "law" "law" (defArgs s_law) (defBody s_law) (defScope s_law) .none kV28 dc28 pm28 an28 cd28 ct28, fun s v => .of_eq rfl, fun base X2 G2 => ?_⟩
  have B : Bn l.prog w K mg [] := { all := PySem.W.mg_none_of X G z_all, bool := PySem.W.mg_none_of X G z_bool, int := PySem.W.mg_none_of X G z_int, isinstance := PySem.W.mg_none_of X G z_isinstance, len := PySem.W.mg_none_of X G z_len, list := PySem.W.mg_none_of X G z_list, range := PySem.W.mg_none_of X G z_range, str := PySem.W.mg_none_of X G z_str, tuple := PySem.W.mg_none_of X G z_tuple, zip := PySem.W.mg_none_of X G z_zip, k_MANY := kd_of X G n_MANY v_MANY, k_MOST := kd_of X G n_MOST v_MOST, k_WAYS := kd_of X G n_WAYS v_WAYS, k_WORDS := kd_of X G n_WORDS v_WORDS, m_LETTERS := km_of X G n_LETTERS l_LETTERS y_LETTERS o_LETTERS v_LETTERS }
  have F0 := fun_mk (st := s_is_number) l0 c0 k0
  have b0 := F0.binds (ps := p_is_number) fun _ _ _ _ _ _ us hl => match us, hl with | [_, _, _], _ => rfl
  have H_is_number : ∀ k, 1 ≤ k → Kn ⟨l.prog, w, K, mg, []⟩ base k "is_number" (sp0 ⟨l.prog, w, K, mg, []⟩ 3 F_is_number) := fun k hk => kn_of X G (ok_is_number (k := 0) B  F0) a0 k0 b0 hk
  have F1 := fun_mk (st := s_are_ways) l1 c1 k1
  have b1 := F1.binds (ps := p_are_ways) fun _ _ _ _ _ _ us hl => match us, hl with | [_], _ => rfl
  have H_are_ways : ∀ k, 1 ≤ k → Kn ⟨l.prog, w, K, mg, []⟩ base k "are_ways" (sp0 ⟨l.prog, w, K, mg, []⟩ 1 F_are_ways) := fun k hk => kn_of X G (ok_are_ways (k := 0) B  F1) a1 k1 b1 hk
  have F2 := fun_mk (st := s_is_kind) l2 c2 k2
  have b2 := F2.binds (ps := p_is_kind) fun _ _ _ _ _ _ us hl => match us, hl with | [_], _ => rfl
  have H_is_kind : ∀ k, 2 ≤ k → Kn ⟨l.prog, w, K, mg, []⟩ base k "is_kind" (sp0 ⟨l.prog, w, K, mg, []⟩ 1 F_is_kind) := fun k hk => kn_of X G (ok_is_kind (k := 1) B (H_are_ways 1 (by decide)) F2) a2 k2 b2 hk
  have F3 := fun_mk (st := s_are_kinds) l3 c3 k3
  have b3 := F3.binds (ps := p_are_kinds) fun _ _ _ _ _ _ us hl => match us, hl with | [_], _ => rfl
  have H_are_kinds : ∀ k, 3 ≤ k → Kn ⟨l.prog, w, K, mg, []⟩ base k "are_kinds" (sp0 ⟨l.prog, w, K, mg, []⟩ 1 F_are_kinds) := fun k hk => kn_of X G (ok_are_kinds (k := 2) B (H_is_kind 2 (by decide)) F3) a3 k3 b3 hk
  have F4 := fun_mk (st := s_is_stretch_of) l4 c4 k4
  have b4 := F4.binds (ps := p_is_stretch_of) fun _ _ _ _ _ _ us hl => match us, hl with | [_, _, _], _ => rfl
  have H_is_stretch_of : ∀ k, 2 ≤ k → Kn ⟨l.prog, w, K, mg, []⟩ base k "is_stretch_of" (sp0 ⟨l.prog, w, K, mg, []⟩ 3 F_is_stretch_of) := fun k hk => kn_of X G (ok_is_stretch_of (k := 1) B (H_is_number 1 (by decide)) F4) a4 k4 b4 hk
  have F5 := fun_mk (st := s_is_road_of) l5 c5 k5
  have b5 := F5.binds (ps := p_is_road_of) fun _ _ _ _ _ _ us hl => match us, hl with | [_], _ => rfl
  have H_is_road_of : ∀ k, 4 ≤ k → Kn ⟨l.prog, w, K, mg, []⟩ base k "is_road_of" (sp0 ⟨l.prog, w, K, mg, []⟩ 1 F_is_road_of) := fun k hk => kn_of X G (ok_is_road_of (k := 3) B (H_are_kinds 3 (by decide)) (H_is_stretch_of 3 (by decide)) F5) a5 k5 b5 hk
  have F6 := fun_mk (st := s_need_road) l6 c6 k6
  have b6 := F6.binds (ps := p_need_road) fun _ _ _ _ _ _ us hl => match us, hl with | [_], _ => rfl
  have H_need_road : ∀ k, 5 ≤ k → Kn ⟨l.prog, w, K, mg, []⟩ base k "need_road" (sp0 ⟨l.prog, w, K, mg, []⟩ 1 F_need_road) := fun k hk => kn_of X G (ok_need_road (k := 4) B (H_is_road_of 4 (by decide)) F6) a6 k6 b6 hk
  have F7 := fun_mk (st := s_need_number) l7 c7 k7
  have b7 := F7.binds (ps := p_need_number) fun _ _ _ _ _ _ us hl => match us, hl with | [_, _, _], _ => rfl
  have H_need_number : ∀ k, 2 ≤ k → Kn ⟨l.prog, w, K, mg, []⟩ base k "need_number" (sp0 ⟨l.prog, w, K, mg, []⟩ 3 F_need_number) := fun k hk => kn_of X G (ok_need_number (k := 1) B (H_is_number 1 (by decide)) F7) a7 k7 b7 hk
  have F8 := fun_mk (st := s_length_of) l8 c8 k8
  have b8 := F8.binds (ps := p_length_of) fun _ _ _ _ _ _ us hl => match us, hl with | [_, _], _ => rfl
  have H_length_of : ∀ k, 1 ≤ k → Kn ⟨l.prog, w, K, mg, []⟩ base k "length_of" (sp0 ⟨l.prog, w, K, mg, []⟩ 2 F_length_of) := fun k hk => kn_of X G (ok_length_of (k := 0) B  F8) a8 k8 b8 hk
  have F9 := fun_mk (st := s_cells_of) l9 c9 k9
  have b9 := F9.binds (ps := p_cells_of) fun _ _ _ _ _ _ us hl => match us, hl with | [_, _], _ => rfl
  have H_cells_of : ∀ k, 1 ≤ k → Kn ⟨l.prog, w, K, mg, []⟩ base k "cells_of" (sp0 ⟨l.prog, w, K, mg, []⟩ 2 F_cells_of) := fun k hk => kn_of X G (ok_cells_of (k := 0) B  F9) a9 k9 b9 hk
  have F10 := fun_mk (st := s_is_road) l10 c10 k10
  have b10 := F10.binds (ps := p_is_road) fun _ _ _ _ _ _ us hl => match us, hl with | [_], _ => rfl
  have H_is_road : ∀ k, 5 ≤ k → Kn ⟨l.prog, w, K, mg, []⟩ base k "is_road" (sp0 ⟨l.prog, w, K, mg, []⟩ 1 F_is_road) := fun k hk => kn_of X G (ok_is_road (k := 4) B (H_is_road_of 4 (by decide)) F10) a10 k10 b10 hk
  have F11 := fun_mk (st := s_cells) l11 c11 k11
  have b11 := F11.binds (ps := p_cells) fun _ _ _ _ _ _ us hl => match us, hl with | [_, _], _ => rfl
  have H_cells : ∀ k, 6 ≤ k → Kn ⟨l.prog, w, K, mg, []⟩ base k "cells" (sp0 ⟨l.prog, w, K, mg, []⟩ 2 F_cells) := fun k hk => kn_of X G (ok_cells (k := 5) B (H_need_road 5 (by decide)) (H_need_number 5 (by decide)) (H_length_of 5 (by decide)) (H_cells_of 5 (by decide)) F11) a11 k11 b11 hk
  have F12 := fun_mk (st := s_ways_word) l12 c12 k12
  have b12 := F12.binds (ps := p_ways_word) fun _ _ _ _ _ _ us hl => match us, hl with | [_], _ => rfl
  have H_ways_word : ∀ k, 1 ≤ k → Kn ⟨l.prog, w, K, mg, []⟩ base k "ways_word" (sp0 ⟨l.prog, w, K, mg, []⟩ 1 F_ways_word) := fun k hk => kn_of X G (ok_ways_word (k := 0) B  F12) a12 k12 b12 hk
  have F13 := fun_mk (st := s_cells_word) l13 c13 k13
  have b13 := F13.binds (ps := p_cells_word) fun _ _ _ _ _ _ us hl => match us, hl with | [_], _ => rfl
  have H_cells_word : ∀ k, 1 ≤ k → Kn ⟨l.prog, w, K, mg, []⟩ base k "cells_word" (sp0 ⟨l.prog, w, K, mg, []⟩ 1 F_cells_word) := fun k hk => kn_of X G (ok_cells_word (k := 0) B  F13) a13 k13 b13 hk
  have F14 := fun_mk (st := s_road_lines) l14 c14 k14
  have b14 := F14.binds (ps := p_road_lines) fun _ _ _ _ _ _ us hl => match us, hl with | [_], _ => rfl
  have H_road_lines : ∀ k, 2 ≤ k → Kn ⟨l.prog, w, K, mg, []⟩ base k "road_lines" (sp0 ⟨l.prog, w, K, mg, []⟩ 1 F_road_lines) := fun k hk => kn_of X G (ok_road_lines (k := 1) B (H_ways_word 1 (by decide)) (H_cells_word 1 (by decide)) F14) a14 k14 b14 hk
  have F15 := fun_mk (st := s_ways_in) l15 c15 k15
  have b15 := F15.binds (ps := p_ways_in) fun _ _ _ _ _ _ us hl => match us, hl with | [_], _ => rfl
  have H_ways_in : ∀ k, 1 ≤ k → Kn ⟨l.prog, w, K, mg, []⟩ base k "ways_in" (sp0 ⟨l.prog, w, K, mg, []⟩ 1 F_ways_in) := fun k hk => kn_of X G (ok_ways_in (k := 0) B  F15) a15 k15 b15 hk
  have F16 := fun_mk (st := s_part_in) l16 c16 k16
  have b16 := F16.binds (ps := p_part_in) fun _ _ _ _ _ _ us hl => match us, hl with | [_], _ => rfl
  have H_part_in : ∀ k, 2 ≤ k → Kn ⟨l.prog, w, K, mg, []⟩ base k "part_in" (sp0 ⟨l.prog, w, K, mg, []⟩ 1 F_part_in) := fun k hk => kn_of X G (ok_part_in (k := 1) B (H_ways_in 1 (by decide)) F16) a16 k16 b16 hk
  have F17 := fun_mk (st := s_road_text) l17 c17 k17
  have b17 := F17.binds (ps := p_road_text) fun _ _ _ _ _ _ us hl => match us, hl with | [_], _ => rfl
  have H_road_text : ∀ k, 6 ≤ k → Kn ⟨l.prog, w, K, mg, []⟩ base k "road_text" (sp0 ⟨l.prog, w, K, mg, []⟩ 1 F_road_text) := fun k hk => kn_of X G (ok_road_text (k := 5) B (H_need_road 5 (by decide)) (H_road_lines 5 (by decide)) F17) a17 k17 b17 hk
  have F18 := fun_mk (st := s_read_road) l18 c18 k18
  have b18 := F18.binds (ps := p_read_road) fun _ _ _ _ _ _ us hl => match us, hl with | [_], _ => rfl
  have H_read_road : ∀ k, 5 ≤ k → Kn ⟨l.prog, w, K, mg, []⟩ base k "read_road" (sp0 ⟨l.prog, w, K, mg, []⟩ 1 F_read_road) := fun k hk => kn_of X G (ok_read_road (k := 4) B (H_part_in 4 (by decide)) (H_is_road_of 4 (by decide)) F18) a18 k18 b18 hk
  have F19 := fun_mk (st := s__law_sack) l19 c19 k19
  have b19 := F19.binds (ps := p__law_sack) fun _ _ _ _ _ _ us hl => match us, hl with | [_, _], _ => rfl
  have H__law_sack : ∀ k, 1 ≤ k → Kn ⟨l.prog, w, K, mg, []⟩ base k "_law_sack" (spN ⟨l.prog, w, K, mg, []⟩ 2 F__law_sack) := fun k hk => kn_of X G (ok__law_sack (k := 0) B  F19) a19 k19 b19 hk
  have F20 := fun_mk (st := s__law_grip) l20 c20 k20
  have b20 := F20.binds (ps := p__law_grip) fun _ _ _ _ _ _ us hl => match us, hl with | [_, _], _ => rfl
  have H__law_grip : ∀ k, 1 ≤ k → Kn ⟨l.prog, w, K, mg, []⟩ base k "_law_grip" (sp1 ⟨l.prog, w, K, mg, []⟩ 2 0 F__law_grip) := fun k hk => kn_of X G (ok__law_grip (k := 0) B  F20) a20 k20 b20 hk
  have F21 := fun_mk (st := s__law_pick) l21 c21 k21
  have b21 := F21.binds (ps := p__law_pick) fun _ _ _ _ _ _ us hl => match us, hl with | [_, _], _ => rfl
  have H__law_pick : ∀ k, 2 ≤ k → Kn ⟨l.prog, w, K, mg, []⟩ base k "_law_pick" (sp1 ⟨l.prog, w, K, mg, []⟩ 2 0 F__law_pick) := fun k hk => kn_of X G (ok__law_pick (k := 1) B (H__law_grip 1 (by decide)) F21) a21 k21 b21 hk
  have F22 := fun_mk (st := s__law_ways) l22 c22 k22
  have b22 := F22.binds (ps := p__law_ways) fun _ _ _ _ _ _ us hl => match us, hl with | [_], _ => rfl
  have H__law_ways : ∀ k, 3 ≤ k → Kn ⟨l.prog, w, K, mg, []⟩ base k "_law_ways" (sp1 ⟨l.prog, w, K, mg, []⟩ 1 0 F__law_ways) := fun k hk => kn_of X G (ok__law_ways (k := 2) B (H__law_pick 2 (by decide)) F22) a22 k22 b22 hk
  have F23 := fun_mk (st := s__law_kinds) l23 c23 k23
  have b23 := F23.binds (ps := p__law_kinds) fun _ _ _ _ _ _ us hl => match us, hl with | [_, _], _ => rfl
  have H__law_kinds : ∀ k, 4 ≤ k → Kn ⟨l.prog, w, K, mg, []⟩ base k "_law_kinds" (sp1 ⟨l.prog, w, K, mg, []⟩ 2 0 F__law_kinds) := fun k hk => kn_of X G (ok__law_kinds (k := 3) B (H__law_grip 3 (by decide)) (H__law_ways 3 (by decide)) F23) a23 k23 b23 hk
  have F24 := fun_mk (st := s__law_cells) l24 c24 k24
  have b24 := F24.binds (ps := p__law_cells) fun _ _ _ _ _ _ us hl => match us, hl with | [_, _, _, _], _ => rfl
  have H__law_cells : ∀ k, 2 ≤ k → Kn ⟨l.prog, w, K, mg, []⟩ base k "_law_cells" (sp1 ⟨l.prog, w, K, mg, []⟩ 4 0 F__law_cells) := fun k hk => kn_of X G (ok__law_cells (k := 1) B (H__law_grip 1 (by decide)) F24) a24 k24 b24 hk
  have F25 := fun_mk (st := s__law_road) l25 c25 k25
  have b25 := F25.binds (ps := p__law_road) fun _ _ _ _ _ _ us hl => match us, hl with | [_, _], _ => rfl
  have H__law_road : ∀ k, 5 ≤ k → Kn ⟨l.prog, w, K, mg, []⟩ base k "_law_road" (sp1 ⟨l.prog, w, K, mg, []⟩ 2 0 F__law_road) := fun k hk => kn_of X G (ok__law_road (k := 4) B (H__law_kinds 4 (by decide)) (H__law_cells 4 (by decide)) F25) a25 k25 b25 hk
  have F26 := fun_mk (st := s__law_word) l26 c26 k26
  have b26 := F26.binds (ps := p__law_word) fun _ _ _ _ _ _ us hl => match us, hl with | [_], _ => rfl
  have H__law_word : ∀ k, 1 ≤ k → Kn ⟨l.prog, w, K, mg, []⟩ base k "_law_word" (sp0 ⟨l.prog, w, K, mg, []⟩ 1 F__law_word) := fun k hk => kn_of X G (ok__law_word (k := 0) B  F26) a26 k26 b26 hk
  have F27 := fun_mk (st := s__law_lines) l27 c27 k27
  have b27 := F27.binds (ps := p__law_lines) fun _ _ _ _ _ _ us hl => match us, hl with | [_], _ => rfl
  have H__law_lines : ∀ k, 2 ≤ k → Kn ⟨l.prog, w, K, mg, []⟩ base k "_law_lines" (sp0 ⟨l.prog, w, K, mg, []⟩ 1 F__law_lines) := fun k hk => kn_of X G (ok__law_lines (k := 1) B (H__law_word 1 (by decide)) F27) a27 k27 b27 hk
  have F28 := fun_mk (st := s_law) l28 c28 k28
  exact law_imp (ok_law (k := 6) B (H__law_sack 6 (by decide)) (H__law_road 6 (by decide)) (H__law_lines 6 (by decide)) (H_road_text 6 (by decide)) (H_read_road 6 (by decide)) (H_is_road 6 (by decide)) (H_cells 6 (by decide)) F28) law_true
end Q
open PySem PySem.W PyProof.Rows
set_option maxHeartbeats 0 in
theorem PySem.Challenge.cw_stoneroads_k13_whole_texts_there_and_bac_holds : PySem.Challenge.rw_stoneroads_k13_whole_texts_there_and_bac.Holds := by
  w_on; o_law; k_head; (case hw => w_witness2)
  k_fill
  refine L2.walk_of (l := PySem.Challenge.rw_stoneroads_k13_whole_texts_there_and_bac) (n := 63) (k := 7) (x := "script") (CX := fun w => L2.CX PySem.Challenge.rw_stoneroads_k13_whole_texts_there_and_bac.prog w) (sp := fun w => Mir.spLaw _) rfl (by decide) rfl ⟨rfl, by decide, by decide⟩ (fun w h Y => PySem.W.kIn_of Y) ?F (fun _ _ a ns hl hO hS => ⟨a, ns, rfl, hl, Mir.sc_of hO hS, fun _ => rfl⟩) (fun _ _ _ _ _ h => Mir.cx_none h)
  case F =>
    intro w mg fa h KX G hmg
    refine' Q.all_mk KX G hmg ?a0 ?l0 ?c0 ?k0 ?a1 ?l1 ?c1 ?k1 ?a2 ?l2 ?c2 ?k2 ?a3 ?l3 ?c3 ?k3 ?a4 ?l4 ?c4 ?k4 ?a5 ?l5 ?c5 ?k5 ?a6 ?l6 ?c6 ?k6 ?a7 ?l7 ?c7 ?k7 ?a8 ?l8 ?c8 ?k8 ?a9 ?l9 ?c9 ?k9 ?a10 ?l10 ?c10 ?k10 ?a11 ?l11 ?c11 ?k11 ?a12 ?l12 ?c12 ?k12 ?a13 ?l13 ?c13 ?k13 ?a14 ?l14 ?c14 ?k14 ?a15 ?l15 ?c15 ?k15 ?a16 ?l16 ?c16 ?k16 ?a17 ?l17 ?c17 ?k17 ?a18 ?l18 ?c18 ?k18 ?a19 ?l19 ?c19 ?k19 ?a20 ?l20 ?c20 ?k20 ?a21 ?l21 ?c21 ?k21 ?a22 ?l22 ?c22 ?k22 ?a23 ?l23 ?c23 ?k23 ?a24 ?l24 ?c24 ?k24 ?a25 ?l25 ?c25 ?k25 ?a26 ?l26 ?c26 ?k26 ?a27 ?l27 ?c27 ?k27 ?a28 ?l28 ?c28 ?k28 ?z_all ?z_bool ?z_int ?z_isinstance ?z_len ?z_list ?z_range ?z_str ?z_tuple ?z_zip ?n_MANY ?v_MANY ?n_MOST ?v_MOST ?n_WAYS ?v_WAYS ?n_WORDS ?v_WORDS ?n_LETTERS ?l_LETTERS ?y_LETTERS ?o_LETTERS ?v_LETTERS
    (case a0 => k_is)
    (case l0 => k_is)
    (case c0 => k_is)
    (case k0 => k_is)
    (case a1 => k_is)
    (case l1 => k_is)
    (case c1 => k_is)
    (case k1 => k_is)
    (case a2 => k_is)
    (case l2 => k_is)
    (case c2 => k_is)
    (case k2 => k_is)
    (case a3 => k_is)
    (case l3 => k_is)
    (case c3 => k_is)
    (case k3 => k_is)
    (case a4 => k_is)
    (case l4 => k_is)
    (case c4 => k_is)
    (case k4 => k_is)
    (case a5 => k_is)
    (case l5 => k_is)
    (case c5 => k_is)
    (case k5 => k_is)
    (case a6 => k_is)
    (case l6 => k_is)
    (case c6 => k_is)
    (case k6 => k_is)
    (case a7 => k_is)
    (case l7 => k_is)
    (case c7 => k_is)
    (case k7 => k_is)
    (case a8 => k_is)
    (case l8 => k_is)
    (case c8 => k_is)
    (case k8 => k_is)
    (case a9 => k_is)
    (case l9 => k_is)
    (case c9 => k_is)
    (case k9 => k_is)
    (case a10 => k_is)
    (case l10 => k_is)
    (case c10 => k_is)
    (case k10 => k_is)
    (case a11 => k_is)
    (case l11 => k_is)
    (case c11 => k_is)
    (case k11 => k_is)
    (case a12 => k_is)
    (case l12 => k_is)
    (case c12 => k_is)
    (case k12 => k_is)
    (case a13 => k_is)
    (case l13 => k_is)
    (case c13 => k_is)
    (case k13 => k_is)
    (case a14 => k_is)
    (case l14 => k_is)
    (case c14 => k_is)
    (case k14 => k_is)
    (case a15 => k_is)
    (case l15 => k_is)
    (case c15 => k_is)
    (case k15 => k_is)
    (case a16 => k_is)
    (case l16 => k_is)
    (case c16 => k_is)
    (case k16 => k_is)
    (case a17 => k_is)
    (case l17 => k_is)
    (case c17 => k_is)
    (case k17 => k_is)
    (case a18 => k_is)
    (case l18 => k_is)
    (case c18 => k_is)
    (case k18 => k_is)
    (case a19 => k_is)
    (case l19 => k_is)
    (case c19 => k_is)
    (case k19 => k_is)
    (case a20 => k_is)
    (case l20 => k_is)
    (case c20 => k_is)
    (case k20 => k_is)
    (case a21 => k_is)
    (case l21 => k_is)
    (case c21 => k_is)
    (case k21 => k_is)
    (case a22 => k_is)
    (case l22 => k_is)
    (case c22 => k_is)
    (case k22 => k_is)
    (case a23 => k_is)
    (case l23 => k_is)
    (case c23 => k_is)
    (case k23 => k_is)
    (case a24 => k_is)
    (case l24 => k_is)
    (case c24 => k_is)
    (case k24 => k_is)
    (case a25 => k_is)
    (case l25 => k_is)
    (case c25 => k_is)
    (case k25 => k_is)
    (case a26 => k_is)
    (case l26 => k_is)
    (case c26 => k_is)
    (case k26 => k_is)
    (case a27 => k_is)
    (case l27 => k_is)
    (case c27 => k_is)
    (case k27 => k_is)
    (case a28 => k_is)
    (case l28 => k_is)
    (case c28 => k_is)
    (case k28 => k_is)
    (case z_all => k_is)
    (case z_bool => k_is)
    (case z_int => k_is)
    (case z_isinstance => k_is)
    (case z_len => k_is)
    (case z_list => k_is)
    (case z_range => k_is)
    (case z_str => k_is)
    (case z_tuple => k_is)
    (case z_zip => k_is)
    (case n_MANY => k_is)
    (case v_MANY => exact (.int _ _))
    (case n_MOST => k_is)
    (case v_MOST => exact (.int _ _))
    (case n_WAYS => k_is)
    (case v_WAYS => exact (.tup (by k_is) (by decide) (.cons (.str _ _) (.cons (.str _ _) (.cons (.str _ _) .nil)))))
    (case n_WORDS => k_is)
    (case v_WORDS => exact (.tup (by k_is) (by decide) (.cons (.str _ _) (.cons (.str _ _) (.cons (.str _ _) .nil)))))
    (case n_LETTERS => k_is)
    (case l_LETTERS => k_is)
    (case y_LETTERS => k_keys)
    (case o_LETTERS => decide)
    (case v_LETTERS => exact (.cons rfl (.str _ _) (.cons rfl (.str _ _) (.cons rfl (.str _ _) .nil))))
