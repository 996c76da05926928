import PyProof.Rows.All
import Wide.All
import OpenK.AllK
import Wide.FinOn
import HandS.ForMost
import HandS.ForExc
import HandS.Style
import HandS.Wide
import HandS.TupAny
import HandS.TupMul
import HandS.Zip
import KE.KDictKeyed
import KE.KDictDisplayH
import HandS.IsInst
import HandS.SetFor
import KE.DataMinMax
import KE.KTupSum
import KE.GoesMore
import HandS.SortInts
import HandS.DictEq
import PyProof.Rows.RowBridgeK
import KE.KRevSl
import PyProof.P3Eq
import HandS.ExcIs
import HandS.HotCalls
import HandS.Conv
import HandS.Text
import HandS.TryMany
import PySem.Challenge.RW_scoreforms_k19_whole_examples
section
set_option Elab.async false
set_option maxRecDepth 100000
set_option linter.all false
/-! Sf1: data trees D, the store, what they stand for in the abstract heap; outcomes; expressions as functions. -/
namespace Sf
open PySem PySem.Spec PyProof.Rows L2

/-- values as trees; a mutable object by its place in the store -/
inductive D where
  | und | non | bl (b : Bool) | int (i : Int) | str (x : Str) | tup (l : List D) | lst (l : List D) | scr (l : List D) | loc (n : Nat) | glob (v : V)

/-- what stands at a place of the store -/
inductive Ob where
  | lst (l : List D)
  | dct (lk : Bool) (kvs : List (D × D))
  | dki (lk : Bool) (kvs : List (Int × D))
  | ins (fs : List (Str × D))
abbrev Sto := List Ob
abbrev En := List D

inductive Out (α : Type) where
  | ok (a : α) (S : Sto)
  | exc (c : Nat) (S : Sto)
  | bad

def fit (n : Nat) : Bool := Nat.ble n 16777216
theorem fit_le {n : Nat} (h : fit n = true) : n ≤ sizeLine := by rw [sizeLine_eq]; exact Nat.le_of_ble_eq_true h
def fitS (n : Nat) : Bool := Nat.blt n 16777216
theorem fitS_lt {n : Nat} (h : fitS n = true) : n < sizeLine := by
  rw [sizeLine_eq]
  have := Nat.le_of_ble_eq_true (show Nat.ble (n + 1) 16777216 = true from h)
  omega

section
variable (K : PySem.W.Frag)
/-- an object of the written part -/
def WtL (a : Addr) (xs : List V) : Prop := ∃ (o : Obj) (its : Array Value) (n : Nat), K.lookup a = some o ∧ o.cls = .type "list" ∧ o.dict = none ∧ o.data = .seq its n ∧ its.size ≤ sizeLine ∧ Vals xs its.toList
variable (B : List Addr)
def TupAt (ρ : List Addr) (H : Hp) (a : Addr) (vs : List V) : Prop := a ∉ B ∧ a ∉ ρ ∧ H a = some (.tup vs)
def ScrAt (ρ : List Addr) (H : Hp) (a : Addr) (vs : List V) : Prop := (a ∉ B ∧ a ∉ ρ ∧ Rd H a (.lst vs)) ∨ WtL K a vs
mutual
/-- the value v stands for the tree d. B, ρ: the addresses of what may change -/
inductive RV (ρ : List Addr) (H : Hp) : D → V → Prop
  | non : RV ρ H .non .non
  | bl (b : Bool) : RV ρ H (.bl b) (.bl b)
  | int (i : Int) : RV ρ H (.int i) (.int i)
  | str (x : Str) : RV ρ H (.str x) (.str x)
  | tup {a vs ds} : TupAt B ρ H a vs → RVs ρ H ds vs → RV ρ H (.tup ds) (.ref a)
  | lst {a vs ds} : a ∉ B → a ∉ ρ → H a = some (.lst vs) → RVs ρ H ds vs → RV ρ H (.lst ds) (.ref a)
  | scr {a vs ds} : ScrAt K B ρ H a vs → RVs ρ H ds vs → RV ρ H (.scr ds) (.ref a)
  | loc {n a} : ρ[n]? = some a → RV ρ H (.loc n) (.ref a)
  | glob {v : V} : v ≠ .non → RV ρ H (.glob v) v
inductive RVs (ρ : List Addr) (H : Hp) : List D → List V → Prop
  | nil : RVs ρ H [] []
  | cons {d v ds vs} : RV ρ H d v → RVs ρ H ds vs → RVs ρ H (d :: ds) (v :: vs)
end
end

section
variable {K : PySem.W.Frag} {B ρ : List Addr} {H : Hp} {ds es : List D} {vs ws : List V}
theorem RVs.length : ∀ {ds : List D} {vs : List V}, RVs K B ρ H ds vs → ds.length = vs.length
  | _, _, .nil => rfl
  | _, _, .cons _ r => by rw [List.length_cons, List.length_cons, RVs.length r]
theorem RVs.get : ∀ {ds : List D} {vs : List V} {i : Nat} {d : D}, RVs K B ρ H ds vs → ds[i]? = some d → ∃ v, vs[i]? = some v ∧ RV K B ρ H d v
  | _, _, _, _, .nil, e => by simp at e
  | _, _, 0, _, .cons r _, e => by simp at e; subst e; exact ⟨_, rfl, r⟩
  | _, _, i + 1, d, .cons _ t, e => by
    obtain ⟨v, h1, h2⟩ := RVs.get (i := i) (d := d) t (by simpa using e)
    exact ⟨v, by simpa using h1, h2⟩
theorem RVs.get' : ∀ {ds : List D} {vs : List V} {i : Nat} {v : V}, RVs K B ρ H ds vs → vs[i]? = some v → ∃ d, ds[i]? = some d ∧ RV K B ρ H d v
  | _, _, _, _, .nil, e => by simp at e
  | _, _, 0, _, .cons r _, e => by simp at e; subst e; exact ⟨_, rfl, r⟩
  | _, _, i + 1, d, .cons _ t, e => by
    obtain ⟨v, h1, h2⟩ := RVs.get' (i := i) t (by simpa using e)
    exact ⟨v, by simpa using h1, h2⟩
theorem RVs.append : ∀ {ds es : List D} {vs ws : List V}, RVs K B ρ H ds vs → RVs K B ρ H es ws → RVs K B ρ H (ds ++ es) (vs ++ ws)
  | _, _, _, _, .nil, s => s
  | _, _, _, _, .cons r t, s => .cons r (RVs.append t s)
theorem RVs.set {d : D} {v : V} (r : RV K B ρ H d v) : ∀ {ds : List D} {vs : List V} (i : Nat), RVs K B ρ H ds vs → RVs K B ρ H (ds.set i d) (vs.set i v)
  | _, _, _, .nil => .nil
  | _, _, 0, .cons _ t => .cons r t
  | _, _, i + 1, .cons q t => .cons q (RVs.set r i t)
theorem RVs.take : ∀ {ds : List D} {vs : List V} (n : Nat), RVs K B ρ H ds vs → RVs K B ρ H (ds.take n) (vs.take n)
  | _, _, 0, _ => .nil
  | _, _, _ + 1, .nil => .nil
  | _, _, n + 1, .cons r t => .cons r (RVs.take n t)
theorem RVs.drop : ∀ {ds : List D} {vs : List V} (n : Nat), RVs K B ρ H ds vs → RVs K B ρ H (ds.drop n) (vs.drop n)
  | _, _, 0, r => r
  | _, _, _ + 1, .nil => .nil
  | _, _, n + 1, .cons _ t => RVs.drop n t
theorem RVs.reverse (h : RVs K B ρ H ds vs) : RVs K B ρ H ds.reverse vs.reverse := by
  induction ds generalizing vs with
  | nil => cases h; exact .nil
  | cons d ds ih => cases h with | cons r t => rw [List.reverse_cons, List.reverse_cons]; exact (ih t).append (.cons r .nil)
theorem RVs.dropLast (h : RVs K B ρ H ds vs) : RVs K B ρ H ds.dropLast vs.dropLast := by
  rw [List.dropLast_eq_take, List.dropLast_eq_take, ← h.length]; exact h.take _
theorem RVs.rep (h : RVs K B ρ H ds vs) : ∀ k : Nat, RVs K B ρ H (List.replicate k ds).flatten (List.replicate k vs).flatten
  | 0 => .nil
  | k + 1 => by rw [List.replicate_succ, List.replicate_succ, List.flatten_cons, List.flatten_cons]; exact h.append (h.rep k)
theorem TupAt.sq {a : Addr} (h : TupAt B ρ H a vs) : SqT K H a vs := .inl (.inl h.2.2)
theorem ScrAt.sq {a : Addr} (h : ScrAt K B ρ H a vs) : SqL K H a vs := h.elim (fun h => .inl h.2.2) .inr

/-- what changes: nothing that stands, but at ρ; new addresses are told -/
structure Post (L ρ : List Addr) (H : Hp) (ρ' : List Addr) (H' : Hp) : Prop where
  ext : ∀ a u, (a ∉ ρ ∨ a ∈ L) → H a = some u → H' a = some u
  pre : ∃ t, ρ' = ρ ++ t
  new : ∀ a, a ∈ ρ' → a ∈ ρ ∨ H a = none
theorem Post.refl {L : List Addr} : Post L ρ H ρ H := ⟨fun _ _ _ h => h, ⟨[], by simp⟩, fun _ h => .inl h⟩
theorem Post.trans {L ρ1 ρ2 : List Addr} {H1 H2 : Hp} (a : Post L ρ H ρ1 H1) (b : Post L ρ1 H1 ρ2 H2) : Post L ρ H ρ2 H2 where
  ext := fun p u hp h => b.ext p u (hp.imp (fun hp z => (a.new p z).elim hp fun z => by rw [h] at z; cases z) id) (a.ext p u hp h)
  pre := by
    obtain ⟨t, e⟩ := a.pre
    obtain ⟨s, e'⟩ := b.pre
    exact ⟨t ++ s, by rw [e', e, List.append_assoc]⟩
  new := fun p hp => (b.new p hp).elim (a.new p) fun z => by
    by_cases q : p ∈ ρ
    · exact .inl q
    · cases e : H p with
      | none => exact .inr rfl
      | some u => rw [a.ext p u (.inl q) e] at z; cases z
theorem Post.rd {L ρ' : List Addr} {H' : Hp} (p : Post L ρ H ρ' H') {a : Addr} {u : HO} (h : a ∉ ρ) (r : Rd H a u) : Rd H' a u :=
  r.elim (fun r => .inl (p.ext a _ (.inl h) r)) fun ⟨o, r⟩ => .inr ⟨o, p.ext a _ (.inl h) r⟩
theorem Post.out {L ρ' : List Addr} {H' : Hp} (p : Post L ρ H ρ' H') {a : Addr} {u : HO} (h : a ∉ ρ) (r : H a = some u) : a ∉ ρ' := fun z => (p.new a z).elim h fun z => by rw [r] at z; cases z
theorem Post.outR {L ρ' : List Addr} {H' : Hp} (p : Post L ρ H ρ' H') {a : Addr} {u : HO} (h : a ∉ ρ) (r : Rd H a u) : a ∉ ρ' := r.elim (p.out h) fun ⟨_, r⟩ => p.out h r
theorem Post.at {L ρ' : List Addr} {H' : Hp} (p : Post L ρ H ρ' H') {n : Nat} {a : Addr} (h : ρ[n]? = some a) : ρ'[n]? = some a := by
  obtain ⟨t, rfl⟩ := p.pre
  rw [List.getElem?_append_left (List.getElem?_eq_some_iff.mp h).1]; exact h
mutual
theorem RV.mono {L ρ' : List Addr} {H' : Hp} (p : Post L ρ H ρ' H') : ∀ (d : D) (v : V), RV K B ρ H d v → RV K B ρ' H' d v
  | .und, _, h => nomatch h
  | .non, _, .non => .non
  | .bl _, _, .bl _ => .bl _
  | .int _, _, .int _ => .int _
  | .str _, _, .str _ => .str _
  | .tup ds, _, .tup h r => .tup ⟨h.1, p.out h.2.1 h.2.2, p.ext _ _ (.inl h.2.1) h.2.2⟩ (RVs.mono p ds _ r)
  | .lst ds, _, .lst h1 h2 h r => .lst h1 (p.out h2 h) (p.ext _ _ (.inl h2) h) (RVs.mono p ds _ r)
  | .scr ds, _, .scr h r => .scr (h.imp (fun h => ⟨h.1, p.outR h.2.1 h.2.2, p.rd h.2.1 h.2.2⟩) id) (RVs.mono p ds _ r)
  | .loc _, _, .loc h => .loc (p.at h)
  | .glob _, _, .glob h => .glob h
theorem RVs.mono {L ρ' : List Addr} {H' : Hp} (p : Post L ρ H ρ' H') : ∀ (ds : List D) (vs : List V), RVs K B ρ H ds vs → RVs K B ρ' H' ds vs
  | [], _, .nil => .nil
  | d :: ds, _, .cons h r => .cons (RV.mono p d _ h) (RVs.mono p ds _ r)
end
end

/-- the environment: a slot that holds a tree holds its value -/
structure RE (K : PySem.W.Frag) (B ρ : List Addr) (H : Hp) (env : En) (σ : L2.St) : Prop where
  len : env.length = σ.length
  at' : ∀ (i : Nat) (d : D), env[i]? = some d → d = .und ∨ ∃ v, σ[i]? = some (some v) ∧ RV K B ρ H d v
theorem RE.mono {K : PySem.W.Frag} {B L ρ ρ' : List Addr} {H H' : Hp} {env : En} {σ : L2.St} (h : RE K B ρ H env σ) (p : Post L ρ H ρ' H') : RE K B ρ' H' env σ :=
  ⟨h.len, fun i d e => (h.at' i d e).imp id fun ⟨v, e1, r⟩ => ⟨v, e1, r.mono p⟩⟩
theorem RE.set {K : PySem.W.Frag} {B ρ : List Addr} {H : Hp} {env : En} {σ : L2.St} {d : D} {v : V} (h : RE K B ρ H env σ) (i : Nat) (r : RV K B ρ H d v) : RE K B ρ H (env.set i d) (σ.set i (some v)) :=
  ⟨by simp [h.len], fun j e q => by
    by_cases hj : i = j
    · subst hj
      rw [List.getElem?_set] at q
      split at q
      · split at q
        · cases q
          refine .inr ⟨v, ?_, r⟩
          rw [List.getElem?_set_self (by rw [← h.len]; assumption)]
        · cases q
      · exact absurd rfl ‹_›
    · rw [List.getElem?_set_ne hj] at q
      rw [List.getElem?_set_ne hj]
      exact h.at' j e q⟩
def undE : En → List Nat → En
  | e, [] => e
  | e, v :: vs => (undE e vs).set v .und
theorem undE_length (e : En) : ∀ vs : List Nat, (undE e vs).length = e.length
  | [] => rfl
  | v :: vs => by unfold undE; rw [List.length_set, undE_length e vs]
theorem RE.wipe {K : PySem.W.Frag} {B ρ : List Addr} {H : Hp} {env : En} {σ : L2.St} (h : RE K B ρ H env σ) : ∀ vs : List Nat, RE K B ρ H (undE env vs) (wipe σ vs)
  | [] => h
  | v :: vs => by
    have ih := h.wipe vs
    refine ⟨by unfold undE L2.wipe; simp [ih.len], fun j e q => ?_⟩
    unfold undE at q
    unfold L2.wipe
    by_cases hj : v = j
    · subst hj
      rw [List.getElem?_set] at q
      split at q
      · split at q
        · cases q; exact .inl rfl
        · cases q
      · exact absurd rfl ‹_›
    · rw [List.getElem?_set_ne hj] at q
      rw [List.getElem?_set_ne hj]
      exact ih.at' j e q

/-- a dict whose keys are tuples: its object alone. ents: the key, its tuple's address, the value -/
def DctRaw (P : Program) (w : World) (a : Addr) (ents : List (NestedKey × Addr × V)) (h : Heap) : Prop :=
  ents.length ≤ sizeLine ∧ (a == sysModules) = false ∧ (ents.map (·.1)).Nodup ∧ ∃ xs : List (NestedKey × Addr × Value), Paired (fun (p : NestedKey × Addr × V) (q : NestedKey × Addr × Value) => p.1 = q.1 ∧ p.2.1 = q.2.1 ∧ RelV p.2.2 q.2.2) ents xs ∧
    ∃ o es ep, h.get? a = some o ∧ o.ExactDict ∧ o.data = .dict es ep ∧ es.toList = xs.map (entryOfKey (nestedKind P w))
def dx (P : Program) (w : World) (a : Addr) (ents : List (NestedKey × Addr × V)) : HO := .ext (DctRaw P w a ents)
mutual
def D.key : D → Option NestedKey
  | .non => some .none
  | .int i => some (.num i)
  | .tup ks => (D.keys ks).map .tup
  | _ => none
def D.keys : List D → Option (List NestedKey)
  | [] => some []
  | d :: ds => match D.key d, D.keys ds with
    | some k, some ks => some (k :: ks)
    | _, _ => none
end
structure Pg where
  P : Program
  w : World
  K : PySem.W.Frag
section
variable (G : Sf.Pg) (B L ρ : List Addr) (H : Hp)
inductive RKs : List (D × D) → List (NestedKey × Addr × V) → Prop
  | nil : RKs [] []
  | cons {k d nk ka v kvs ents} : D.key k = some nk → RV G.K B ρ H k (.ref ka) → nk.depth ≤ 8 → RV G.K B ρ H d v → RKs kvs ents → RKs ((k, d) :: kvs) ((nk, ka, v) :: ents)
inductive RIs : List (Int × D) → List (Key × V) → Prop
  | nil : RIs [] []
  | cons {i d v kvs ents} : RV G.K B ρ H d v → RIs kvs ents → RIs ((i, d) :: kvs) ((Sum.inl i, v) :: ents)
inductive RFs : List (Str × D) → List (Str × V) → Prop
  | nil : RFs [] []
  | cons {f d v fs ents} : RV G.K B ρ H d v → RFs fs ents → RFs ((f, d) :: fs) ((f, v) :: ents)
def LkAt (lk : Bool) (a : Addr) (u : HO) : Prop := if lk = true then a ∈ L ∧ ∃ od, H a = some (.frz od u) else H a = some u
/-- the class of the objects -/
def BdIn (K : PySem.W.Frag) (C : Addr) : Prop := PySem.W.nsIn K mainGlobals "Board" = some (some (.ref C))
/-- what stands at a for an object of the store -/
def RO (a : Addr) : Ob → Prop
  | .lst ds => ∃ vs, H a = some (.lst vs) ∧ RVs G.K B ρ H ds vs
  | .dct lk kvs => ∃ ents, LkAt L H lk a (dx G.P G.w a ents) ∧ RKs G B ρ H kvs ents
  | .dki lk kvs => ∃ ents, LkAt L H lk a (.dK ents) ∧ RIs G B ρ H kvs ents
  | .ins fs => ∃ C dx ents, BdIn G.K C ∧ H a = some (.ins C dx ents) ∧ RFs G B ρ H fs ents
/-- the store as it stands -/
structure RH (S : Sto) : Prop where
  len : ρ.length = S.length
  nd : ρ.Nodup
  dj : ∀ a, a ∈ ρ → a ∉ B
  avo : ∀ b, b ∈ B → ∃ u, H b = some u
  lk : ∀ a, a ∈ L → ∃ o u, H a = some (.frz o u)
  ob : ∀ (n : Nat) (a : Addr) (o : Ob), ρ[n]? = some a → S[n]? = some o → RO G B L ρ H a o
end
section
variable {G : Pg} {B L ρ ρ' : List Addr} {H H' : Hp} {S : Sto}
theorem RKs.mono (p : Post L ρ H ρ' H') : ∀ {kvs ents}, RKs G B ρ H kvs ents → RKs G B ρ' H' kvs ents
  | _, _, .nil => .nil
  | _, _, .cons h1 h2 h3 h4 r => .cons h1 (h2.mono p) h3 (h4.mono p) (r.mono p)
theorem RIs.mono (p : Post L ρ H ρ' H') : ∀ {kvs ents}, RIs G B ρ H kvs ents → RIs G B ρ' H' kvs ents
  | _, _, .nil => .nil
  | _, _, .cons h1 r => .cons (h1.mono p) (r.mono p)
theorem RFs.mono (p : Post L ρ H ρ' H') : ∀ {kvs ents}, RFs G B ρ H kvs ents → RFs G B ρ' H' kvs ents
  | _, _, .nil => .nil
  | _, _, .cons h1 r => .cons (h1.mono p) (r.mono p)
theorem RH.there (R : RH G B L ρ H S) {n : Nat} {a : Addr} (h : ρ[n]? = some a) : ∃ u, H a = some u := by
  have hn : n < S.length := by rw [← R.len]; exact (List.getElem?_eq_some_iff.mp h).1
  have q := R.ob n a _ h (List.getElem?_eq_getElem hn)
  cases e : S[n] with
  | lst ds => rw [e] at q; obtain ⟨vs, q, _⟩ := q; exact ⟨_, q⟩
  | dct lk kvs =>
    rw [e] at q; obtain ⟨vs, q, _⟩ := q
    cases lk with
    | true => obtain ⟨_, _, q⟩ := q; exact ⟨_, q⟩
    | false => exact ⟨_, q⟩
  | dki lk kvs =>
    rw [e] at q; obtain ⟨vs, q, _⟩ := q
    cases lk with
    | true => obtain ⟨_, _, q⟩ := q; exact ⟨_, q⟩
    | false => exact ⟨_, q⟩
  | ins fs => rw [e] at q; obtain ⟨_, _, _, _, q, _⟩ := q; exact ⟨_, q⟩
theorem RH.someM (R : RH G B L ρ H S) {a : Addr} (h : a ∈ ρ) : ∃ u, H a = some u := by
  obtain ⟨n, h⟩ := List.mem_iff_getElem?.mp h
  exact R.there h
theorem RH.fresh (R : RH G B L ρ H S) {p : Addr} (h : H p = none) : p ∉ ρ ∧ p ∉ B :=
  ⟨fun z => (by obtain ⟨u, e⟩ := R.someM z; rw [h] at e; cases e), fun z => (by obtain ⟨u, e⟩ := R.avo _ z; rw [h] at e; cases e)⟩
/-- the same objects behind a step that writes none of them -/
theorem RO.mono (p : Post L ρ H ρ' H') {a : Addr} {o : Ob} (k : H' a = H a) (h : RO G B L ρ H a o) : RO G B L ρ' H' a o := by
  cases o with
  | lst ds => obtain ⟨vs, e, r⟩ := h; exact ⟨vs, k.trans e, RVs.mono p _ _ r⟩
  | dct lk kvs => obtain ⟨ents, e, r⟩ := h; refine ⟨ents, ?_, r.mono p⟩; unfold LkAt at e ⊢; rw [k]; exact e
  | dki lk kvs => obtain ⟨ents, e, r⟩ := h; refine ⟨ents, ?_, r.mono p⟩; unfold LkAt at e ⊢; rw [k]; exact e
  | ins fs => obtain ⟨C, d, ents, hb, e, r⟩ := h; exact ⟨C, d, ents, hb, k.trans e, r.mono p⟩
/-- a new object that is not of the store -/
theorem Post.newV {p : Addr} {o : HO} (h : H p = none) : Post L ρ H ρ (upd H p o) :=
  ⟨fun a u _ e => by rw [upd_ne (ne_of_none e h)]; exact e, ⟨[], by simp⟩, fun _ h => .inl h⟩
theorem RH.newV (R : RH G B L ρ H S) {p : Addr} {o : HO} (h : H p = none) : RH G B L ρ (upd H p o) S where
  len := R.len
  nd := R.nd
  dj := R.dj
  avo := fun b hb => let ⟨u, e⟩ := R.avo b hb; ⟨u, by rw [upd_ne (ne_of_none e h)]; exact e⟩
  lk := fun b hb => let ⟨ob, u, e⟩ := R.lk b hb; ⟨ob, u, by rw [upd_ne (ne_of_none e h)]; exact e⟩
  ob := fun n a ob h1 h2 => by
    obtain ⟨u, e⟩ := R.there h1
    exact (R.ob n a ob h1 h2).mono (Post.newV h) (upd_ne (ne_of_none e h))
/-- a new object of the store -/
theorem Post.newL {p : Addr} {o : HO} (h : H p = none) : Post L ρ H (ρ ++ [p]) (upd H p o) :=
  ⟨fun a u _ e => by rw [upd_ne (ne_of_none e h)]; exact e, ⟨[p], rfl⟩, fun a z => (List.mem_append.mp z).imp id fun z => by simp at z; rw [z]; exact h⟩
theorem RH.newL (R : RH G B L ρ H S) {p : Addr} {o : HO} {ob : Ob} (h : H p = none) (q : RO G B L (ρ ++ [p]) (upd H p o) p ob) : RH G B L (ρ ++ [p]) (upd H p o) (S ++ [ob]) where
  len := by simp [R.len]
  nd := by
    rw [List.nodup_append]
    refine ⟨R.nd, by simp, fun a ha b hb => ?_⟩
    simp at hb; subst hb
    rintro rfl
    exact (R.fresh h).1 ha
  dj := fun a ha => (List.mem_append.mp ha).elim (R.dj a) fun z => by simp at z; rw [z]; exact (R.fresh h).2
  avo := fun b hb => let ⟨u, e⟩ := R.avo b hb; ⟨u, by rw [upd_ne (ne_of_none e h)]; exact e⟩
  lk := fun b hb => let ⟨ob, u, e⟩ := R.lk b hb; ⟨ob, u, by rw [upd_ne (ne_of_none e h)]; exact e⟩
  ob := fun n a ob' h1 h2 => by
    by_cases hn : n < ρ.length
    · rw [List.getElem?_append_left hn] at h1
      rw [List.getElem?_append_left (by rw [← R.len]; exact hn)] at h2
      obtain ⟨u, e⟩ := R.there h1
      exact (R.ob n a ob' h1 h2).mono (Post.newL h) (upd_ne (ne_of_none e h))
    · have hn' : n = ρ.length := by
        have := (List.getElem?_eq_some_iff.mp h1).1
        simp at this; omega
      subst hn'
      rw [List.getElem?_append_right (Nat.le_refl _)] at h1
      rw [R.len, List.getElem?_append_right (Nat.le_refl _)] at h2
      simp at h1 h2
      subst h1; subst h2
      exact q
/-- an object of the store is written -/
theorem Post.wr {n : Nat} {a : Addr} {o : HO} (h : ρ[n]? = some a) (hl : a ∉ L) : Post L ρ H ρ (upd H a o) :=
  ⟨fun b u hb e => by
    rw [upd_ne]
    · exact e
    · rintro rfl
      exact hb.elim (fun z => z (List.mem_of_getElem? h)) hl, ⟨[], by simp⟩, fun _ h => .inl h⟩
theorem RH.wr (R : RH G B L ρ H S) {n : Nat} {a : Addr} {o : HO} {ob : Ob} (h : ρ[n]? = some a) (hl : a ∉ L) (q : RO G B L ρ (upd H a o) a ob) : RH G B L ρ (upd H a o) (S.set n ob) where
  len := by simp [R.len]
  nd := R.nd
  dj := R.dj
  avo := fun b hb => let ⟨u, e⟩ := R.avo b hb; ⟨u, by
    rw [upd_ne]
    · exact e
    · rintro rfl; exact R.dj _ (List.mem_of_getElem? h) hb⟩
  lk := fun b hb => let ⟨ob, u, e⟩ := R.lk b hb; ⟨ob, u, by
    rw [upd_ne]
    · exact e
    · rintro rfl; exact hl hb⟩
  ob := fun m b ob' h1 h2 => by
    by_cases hm : n = m
    · subst hm
      rw [h] at h1; cases h1
      rw [List.getElem?_set_self (by rw [← R.len]; exact (List.getElem?_eq_some_iff.mp h).1)] at h2
      cases h2
      exact q
    · rw [List.getElem?_set_ne hm] at h2
      have hne : b ≠ a := fun e => hm (nodup_ix' R.nd h (e ▸ h1))
      exact (R.ob m b ob' h1 h2).mono (Post.wr h hl) (upd_ne hne)
where
  nodup_ix' {α : Type} {l : List α} (hN : l.Nodup) {i j : Nat} {x : α} (a : l[i]? = some x) (b : l[j]? = some x) : i = j := L2.nd_ix hN a b
theorem RH.notL (R : RH G B L ρ H S) {a : Addr} {u : HO} (h : H a = some u) (hu : ∀ o z, u ≠ .frz o z) : a ∉ L := fun z => by
  obtain ⟨o, w, e⟩ := R.lk a z
  rw [h] at e; cases e; exact hu _ _ rfl
end
end Sf
end

section
set_option Elab.async false
set_option maxRecDepth 100000
set_option linter.all false
/-! Sf2: judgements: an expression is worth a function of the environment and the store. -/
namespace Sf
open PySem PySem.Spec PyProof.Rows L2

abbrev XM := Nat → Value
/-- what is wanted behind an outcome -/
def GO {α β : Type} (G : Pg) (W : WX) (xm : XM) (B L ρ : List Addr) (H : Hp) (σ : L2.St) (rel : List Addr → Hp → α → β → Prop) (r : Out α) (Q : β → Hp → Prop) : Prop :=
  match r with
  | .ok d S' => ∀ v ρ' H', Post L ρ H ρ' H' → RH G B L ρ' H' S' → rel ρ' H' d v → Q v H'
  | .exc c S' => ∀ ρ' H', Post L ρ H ρ' H' → RH G B L ρ' H' S' → W (xm c) none σ H'
  | .bad => False
structure At (G : Pg) (B L ρ : List Addr) (S : Sto) (env : En) (σ : L2.St) (H : Hp) : Prop where
  rh : RH G B L ρ H S
  re : RE G.K B ρ H env σ
theorem At.step {G : Pg} {B L ρ ρ' : List Addr} {S S' : Sto} {env : En} {σ : L2.St} {H H' : Hp} (a : At G B L ρ S env σ H) (p : Post L ρ H ρ' H') (r : RH G B L ρ' H' S') : At G B L ρ' S' env σ H' := ⟨r, a.re.mono p⟩
section
variable {α β : Type} {G : Pg} {W : WX} {xm : XM} {B L ρ ρ' : List Addr} {H H' : Hp} {σ : L2.St} {rel : List Addr → Hp → α → β → Prop} {r : Out α} {Q : β → Hp → Prop}
theorem GO.step (g : GO G W xm B L ρ H σ rel r Q) (p : Post L ρ H ρ' H') : GO G W xm B L ρ' H' σ rel r Q := by
  cases r with
  | ok d S' => exact fun v ρ2 H2 q R x => g v ρ2 H2 (p.trans q) R x
  | exc c S' => exact fun ρ2 H2 q R => g ρ2 H2 (p.trans q) R
  | bad => exact g
end
abbrev rD (G : Pg) (B : List Addr) : List Addr → Hp → D → V → Prop := fun ρ H d v => RV G.K B ρ H d v
abbrev rB : List Addr → Hp → Bool → Bool → Prop := fun _ _ a b => a = b
abbrev rL (G : Pg) (B : List Addr) : List Addr → Hp → List D → List V → Prop := fun ρ H d v => RVs G.K B ρ H d v
abbrev FE := En → Sto → Out D
abbrev FT := En → Sto → Out Bool
abbrev FA := En → Sto → Out (List D)
section
variable (G : Pg) (W : WX) (xm : XM)
def tE (f : FE) : TE := fun σ H Q => ∃ B L ρ S env, At G B L ρ S env σ H ∧ GO G W xm B L ρ H σ (rD G B) (f env S) Q
def tT (f : FT) : TT := fun σ H Q => ∃ B L ρ S env, At G B L ρ S env σ H ∧ GO G W xm B L ρ H σ rB (f env S) Q
def tA (f : FA) : TA := fun σ H Q => ∃ B L ρ S env, At G B L ρ S env σ H ∧ GO G W xm B L ρ H σ (rL G B) (f env S) Q
end
theorem PE.imp {X : Cx} {e : Expr} {t t' : TE} (h : PE X e t) (i : ∀ σ H Q, t' σ H Q → t σ H Q) : PE X e t' := ⟨fun pins s σ H Q I q => h.run pins s σ H Q I (i σ H Q q)⟩
theorem PT.imp {X : Cx} {e : Expr} {t t' : TT} (h : PT X e t) (i : ∀ σ H Q, t' σ H Q → t σ H Q) : PT X e t' := ⟨fun pins s σ H Q I q => h.run pins s σ H Q I (i σ H Q q)⟩
theorem PW.imp {X : Cx} {e : Expr} {t t' : TT} (h : PW X e t) (i : ∀ σ H Q, t' σ H Q → t σ H Q) : PW X e t' := ⟨fun wh pins s σ H Q I q => h.run wh pins s σ H Q I (i σ H Q q)⟩
theorem PA.imp {X : Cx} {es : List Expr} {t t' : TA} (h : PA X es t) (i : ∀ σ H Q, t' σ H Q → t σ H Q) : PA X es t' := ⟨fun pos pins s σ H Q I q => h.run pos pins s σ H Q I (i σ H Q q)⟩
theorem PS.imp {X : Cx} {st : Stmt} {t t' : TS} (h : PS X st t) (i : ∀ D σ H, t' D σ H → t D σ H) : PS X st t' := ⟨fun pins s σ H D I q => h.run pins s σ H D I (i D σ H q)⟩
theorem PSs.imp {X : Cx} {st : List Stmt} {t t' : TS} (h : PSs X st t) (i : ∀ D σ H, t' D σ H → t D σ H) : PSs X st t' := ⟨fun pins s σ H D I q => h.run pins s σ H D I (i D σ H q)⟩

/-- the program's parts as X has them -/
abbrev pg (X : Cx) : Pg := ⟨X.prog, X.w, X.K⟩
/-- X, its wish W about exceptions, the exceptions' classes -/
structure Wx where
  W : WX
  xm : XM
abbrev SE (X : Cx) (w : Wx) (e : Expr) (f : FE) : Prop := PE X e (tE (pg X) w.W w.xm f)
abbrev ST (X : Cx) (w : Wx) (e : Expr) (f : FT) : Prop := PT X e (tT (pg X) w.W w.xm f)
abbrev SW (X : Cx) (w : Wx) (e : Expr) (f : FT) : Prop := PW X e (tT (pg X) w.W w.xm f)
abbrev SA (X : Cx) (w : Wx) (es : List Expr) (f : FA) : Prop := PA X es (tA (pg X) w.W w.xm f)

/-! ### functions -/
def Out.bind {α β : Type} (r : Out α) (k : α → Sto → Out β) : Out β := match r with
  | .ok a S => k a S
  | .exc c S => .exc c S
  | .bad => .bad
def fVar (i : Nat) : FE := fun env S => match env[i]? with
  | some d => match d with
    | .und => .bad
    | d => .ok d S
  | none => .bad
def fCon (d : D) : FE := fun _ S => .ok d S
/-- an operation by values: it raises nothing -/
abbrev Op1 := D → Sto → Option (D × Sto)
abbrev Op2 := D → D → Sto → Option (D × Sto)
abbrev OpN := List D → Sto → Option (D × Sto)
def outO {α : Type} : Option (α × Sto) → Out α
  | some (d, S) => .ok d S
  | none => .bad
def fOp1 (g : Op1) (a : FE) : FE := fun env S => (a env S).bind fun x S1 => outO (g x S1)
def fOp2 (g : Op2) (a b : FE) : FE := fun env S => (a env S).bind fun x S1 => (b env S1).bind fun y S2 => outO (g x y S2)
def fNil : FA := fun _ S => .ok [] S
def fCons (a : FE) (r : FA) : FA := fun env S => (a env S).bind fun x S1 => (r env S1).bind fun xs S2 => .ok (x :: xs) S2
def fOpN (g : OpN) (a : FA) : FE := fun env S => (a env S).bind fun xs S1 => outO (g xs S1)
/-- a value as a bool, as a test -/
def asB : D → Option Bool
  | .bl b => some b
  | _ => none
def tVal (a : FE) : FT := fun env S => (a env S).bind fun x S1 => match x with
  | .bl b => .ok b S1
  | _ => .bad
def tAnd (a b : FT) : FT := fun env S => (a env S).bind fun x S1 => bif x then b env S1 else .ok false S1
def tOr (a b : FT) : FT := fun env S => (a env S).bind fun x S1 => bif x then .ok true S1 else b env S1
def tNot (a : FT) : FT := fun env S => (a env S).bind fun x S1 => .ok (!x) S1
def fIf (c : FT) (a b : FE) : FE := fun env S => (c env S).bind fun x S1 => bif x then a env S1 else b env S1
def fAnd (a b : FE) : FE := fun env S => (a env S).bind fun x S1 => match x with
  | .bl c => bif c then b env S1 else .ok (.bl false) S1
  | _ => .bad
def fOr (a b : FE) : FE := fun env S => (a env S).bind fun x S1 => match x with
  | .bl c => bif c then .ok (.bl true) S1 else b env S1
  | _ => .bad
def fNot (a : FE) : FE := fun env S => (a env S).bind fun x S1 => match x with
  | .bl c => .ok (.bl (!c)) S1
  | _ => .bad

section
variable {X : Cx} {w : Wx} {G : Pg} {W : WX} {xm : XM} {e a b c : Expr} {es rest : List Expr} {f fa fb fc : FE} {ft ft' : FT} {fs : FA} {pos : Pos}
/-- the first part of a bind -/
theorem tE_bind {α β : Type} {rel : List Addr → List Addr → Hp → α → β → Prop} {B L ρ S env σ H} {k : D → Sto → Out α} {Q : β → Hp → Prop} (A : At G B L ρ S env σ H) (g : GO G W xm B L ρ H σ (rel B) ((f env S).bind k) Q) :
    tE G W xm f σ H fun x H1 => ∃ B L ρ S d, At G B L ρ S env σ H1 ∧ RV G.K B ρ H1 d x ∧ GO G W xm B L ρ H1 σ (rel B) (k d S) Q := by
  refine ⟨B, L, ρ, S, env, A, ?_⟩
  revert g
  cases f env S with
  | ok d S' => exact fun g v ρ' H' p R r => ⟨B, L, ρ', S', d, A.step p R, r, GO.step g p⟩
  | exc c S' => exact fun g => g
  | bad => exact fun g => g
theorem tT_bind {α β : Type} {rel : List Addr → List Addr → Hp → α → β → Prop} {B L ρ S env σ H} {k : Bool → Sto → Out α} {Q : β → Hp → Prop} (A : At G B L ρ S env σ H) (g : GO G W xm B L ρ H σ (rel B) ((ft env S).bind k) Q) :
    tT G W xm ft σ H fun x H1 => ∃ B L ρ S, At G B L ρ S env σ H1 ∧ GO G W xm B L ρ H1 σ (rel B) (k x S) Q := by
  refine ⟨B, L, ρ, S, env, A, ?_⟩
  revert g
  cases ft env S with
  | ok d S' => exact fun g v ρ' H' p R r => ⟨B, L, ρ', S', A.step p R, by cases r; exact GO.step g p⟩
  | exc c S' => exact fun g => g
  | bad => exact fun g => g
theorem tA_bind {α β : Type} {rel : List Addr → List Addr → Hp → α → β → Prop} {B L ρ S env σ H} {k : List D → Sto → Out α} {Q : β → Hp → Prop} (A : At G B L ρ S env σ H) (g : GO G W xm B L ρ H σ (rel B) ((fs env S).bind k) Q) :
    tA G W xm fs σ H fun x H1 => ∃ B L ρ S d, At G B L ρ S env σ H1 ∧ RVs G.K B ρ H1 d x ∧ GO G W xm B L ρ H1 σ (rel B) (k d S) Q := by
  refine ⟨B, L, ρ, S, env, A, ?_⟩
  revert g
  cases fs env S with
  | ok d S' => exact fun g v ρ' H' p R r => ⟨B, L, ρ', S', d, A.step p R, r, GO.step g p⟩
  | exc c S' => exact fun g => g
  | bad => exact fun g => g
theorem tE_bind2 {α β : Type} {rel : List Addr → List Addr → Hp → α → β → Prop} {B L ρ S env σ H} {k : D → D → Sto → Out α} {Q : β → Hp → Prop} (A : At G B L ρ S env σ H) (g : GO G W xm B L ρ H σ (rel B) ((fa env S).bind fun x S1 => (fb env S1).bind fun y S2 => k x y S2) Q) :
    tE G W xm fa σ H fun x H1 => tE G W xm fb σ H1 fun y H2 => ∃ B L ρ S d d', At G B L ρ S env σ H2 ∧ RV G.K B ρ H2 d x ∧ RV G.K B ρ H2 d' y ∧ GO G W xm B L ρ H2 σ (rel B) (k d d' S) Q := by
  refine ⟨B, L, ρ, S, env, A, ?_⟩
  revert g
  cases fa env S with
  | ok d S' =>
    intro g v ρ' H' p R r
    have g' := GO.step g p
    refine ⟨B, L, ρ', S', env, A.step p R, ?_⟩
    revert g'
    show GO G W xm B L ρ' H' σ (rel B) ((fb env S').bind fun y S2 => k d y S2) Q → _
    cases fb env S' with
    | ok d' S2 => exact fun g' v2 ρ2 H2 p2 R2 r2 => ⟨B, L, ρ2, S2, d, d', (A.step p R).step p2 R2, r.mono p2, r2, GO.step g' p2⟩
    | exc c S' => exact fun g => g
    | bad => exact fun g => g
  | exc c S' => exact fun g => g
  | bad => exact fun g => g

/-! ### what an operation's rule asks, answered by its function -/
abbrev Ok1 (G : Pg) (r : V → Hp → VK → Prop) (g : Op1) : Prop := ∀ (B L ρ : List Addr) (S S' : Sto) (H : Hp) (d d' : D) (x : V) (Q : VK), RH G B L ρ H S → RV G.K B ρ H d x → g d S = some (d', S') →
  (∀ v ρ' H', Post L ρ H ρ' H' → RH G B L ρ' H' S' → RV G.K B ρ' H' d' v → Q v H') → r x H Q
abbrev Ok2 (G : Pg) (r : R2) (g : Op2) : Prop := ∀ (B L ρ : List Addr) (S S' : Sto) (H : Hp) (d1 d2 d' : D) (x y : V) (Q : VK), RH G B L ρ H S → RV G.K B ρ H d1 x → RV G.K B ρ H d2 y → g d1 d2 S = some (d', S') →
  (∀ v ρ' H', Post L ρ H ρ' H' → RH G B L ρ' H' S' → RV G.K B ρ' H' d' v → Q v H') → r x y H Q
abbrev OkN (G : Pg) (r : List V → Hp → VK → Prop) (g : OpN) : Prop := ∀ (B L ρ : List Addr) (S S' : Sto) (H : Hp) (ds : List D) (d' : D) (xs : List V) (Q : VK), RH G B L ρ H S → RVs G.K B ρ H ds xs → g ds S = some (d', S') →
  (∀ v ρ' H', Post L ρ H ρ' H' → RH G B L ρ' H' S' → RV G.K B ρ' H' d' v → Q v H') → r xs H Q
theorem GO.outO {α β : Type} {rel : List Addr → Hp → α → β → Prop} {B L ρ H σ} {r : Option (α × Sto)} {Q : β → Hp → Prop} (g : GO G W xm B L ρ H σ rel (Sf.outO r) Q) : ∃ d S', r = some (d, S') ∧ ∀ v ρ' H', Post L ρ H ρ' H' → RH G B L ρ' H' S' → rel ρ' H' d v → Q v H' := by
  cases r with
  | none => exact g.elim
  | some p => obtain ⟨d, S'⟩ := p; exact ⟨d, S', rfl, g⟩
/-- an outcome that is there -/
theorem GO.ok0 {α β : Type} {rel : List Addr → Hp → α → β → Prop} {B L ρ H σ S env} {d : α} {Q : β → Hp → Prop} {v : β} (g : GO G W xm B L ρ H σ rel (.ok d S) Q) (A : At G B L ρ S env σ H) (r : rel ρ H d v) : Q v H := g v ρ H Post.refl A.rh r

theorem GO.mono {α β : Type} {rel : List Addr → Hp → α → β → Prop} {B L ρ H σ} {r : Out α} {Q Q' : β → Hp → Prop} (g : GO G W xm B L ρ H σ rel r Q) (h : ∀ v H', Q v H' → Q' v H') : GO G W xm B L ρ H σ rel r Q' := by
  cases r with
  | ok d S' => exact fun v ρ' H' p R r => h _ _ (g v ρ' H' p R r)
  | exc c S' => exact g
  | bad => exact g
theorem tE_mono {σ H Q Q'} (h : tE G W xm f σ H Q) (i : ∀ v H', Q v H' → Q' v H') : tE G W xm f σ H Q' := let ⟨B, L, ρ, S, env, A, g⟩ := h; ⟨B, L, ρ, S, env, A, g.mono i⟩
theorem tT_mono {σ H Q Q'} (h : tT G W xm ft σ H Q) (i : ∀ v H', Q v H' → Q' v H') : tT G W xm ft σ H Q' := let ⟨B, L, ρ, S, env, A, g⟩ := h; ⟨B, L, ρ, S, env, A, g.mono i⟩
theorem tA_mono {σ H Q Q'} (h : tA G W xm fs σ H Q) (i : ∀ v H', Q v H' → Q' v H') : tA G W xm fs σ H Q' := let ⟨B, L, ρ, S, env, A, g⟩ := h; ⟨B, L, ρ, S, env, A, g.mono i⟩
theorem se_imp {t : TE} (h : PE X e t) (i : ∀ σ H Q, tE (pg X) w.W w.xm f σ H Q → t σ H Q) : SE X w e f := PE.imp h i
theorem se_var {i : Nat} {x : Str} (h : PE X (.Name x pos) (tVar i)) : SE X w (.Name x pos) (fVar i) := by
  refine PE.imp h fun σ H Q ⟨B, L, ρ, S, env, A, g⟩ => ?_
  unfold fVar at g
  cases q : env[i]? with
  | none => rw [q] at g; exact g.elim
  | some d =>
    rw [q] at g
    rcases A.re.at' i d q with z | ⟨v, e1, r⟩
    · subst z; exact g.elim
    · refine ⟨v, e1, ?_⟩
      cases d
      case und => cases r
      all_goals exact GO.ok0 g A r
theorem se_con {v : V} {d : D} (h : PE X e (tC v)) (r : ∀ B ρ H, RV X.K B ρ H d v) : SE X w e (fCon d) := by
  refine PE.imp h fun σ H Q ⟨B, L, ρ, S, env, A, g⟩ => ?_
  exact GO.ok0 g A (r _ _ _)
theorem se_int {i : Int} {j} : SE X w (.Constant (.int i) j pos) (fCon (.int i)) := se_con pe_int fun _ _ _ => .int i
theorem se_bl {i : Bool} {j} : SE X w (.Constant (.bool i) j pos) (fCon (.bl i)) := se_con pe_bl fun _ _ _ => .bl i
theorem se_non {j} : SE X w (.Constant .none j pos) (fCon .non) := se_con pe_non fun _ _ _ => .non
theorem se_str {x : Str} {j} : SE X w (.Constant (.str x) j pos) (fCon (.str x)) := se_con pe_str fun _ _ _ => .str x
theorem go_op1 {r : V → Hp → VK → Prop} {g : Op1} (h : Ok1 (pg X) r g) {σ H Q env} {B L ρ : List Addr} {S : Sto} (A : At (pg X) B L ρ S env σ H) (gg : GO (pg X) w.W w.xm B L ρ H σ (rD (pg X) B) ((fa env S).bind fun x S1 => outO (g x S1)) Q) :
    tE (pg X) w.W w.xm fa σ H fun x H1 => r x H1 Q :=
  tE_mono (tE_bind (rel := rD (pg X)) A gg) fun x H1 ⟨B, L, ρ, S, d, A, r, g⟩ => let ⟨d', S', e, q⟩ := g.outO; h B L ρ S S' H1 d d' x Q A.rh r e q
theorem go_op2 {r : R2} {g : Op2} (h : Ok2 (pg X) r g) {σ H Q env} {B L ρ : List Addr} {S : Sto} (A : At (pg X) B L ρ S env σ H) (gg : GO (pg X) w.W w.xm B L ρ H σ (rD (pg X) B) (fOp2 g fa fb env S) Q) :
    tE (pg X) w.W w.xm fa σ H fun x H1 => tE (pg X) w.W w.xm fb σ H1 fun y H2 => r x y H2 Q :=
  tE_mono (tE_bind2 (rel := rD (pg X)) A gg) fun x H1 h1 => tE_mono h1 fun y H2 ⟨B, L, ρ, S, d, d2, A, r, r2, g⟩ => let ⟨d', S', e, q⟩ := g.outO; h B L ρ S S' H2 d d2 d' x y Q A.rh r r2 e q
theorem se_bin {op : Operator} {r : R2} {g : Op2} (ho : OpR X (binaryOp op) r) (h : Ok2 (pg X) r g) (ha : SE X w a fa) (hb : SE X w b fb) : SE X w (.BinOp a op b pos) (fOp2 g fa fb) :=
  PE.imp (pe_op ho ha hb) fun σ H Q ⟨B, L, ρ, S, env, A, gg⟩ => go_op2 h A gg
theorem se_un {op : UnaryOp} {r : V → Hp → VK → Prop} {g : Op1} (ho : UnR X (unaryOp op) r) (h : Ok1 (pg X) r g) (ha : SE X w a fa) : SE X w (.UnaryOp op a pos) (fOp1 g fa) :=
  PE.imp (pe_un ho ha) fun σ H Q ⟨B, L, ρ, S, env, A, gg⟩ => go_op1 h A gg
theorem se_cmp {op : CmpOp} {r : R2} {g : Op2} (ho : OpR X (compareOp op) r) (h : Ok2 (pg X) r g) (ha : SE X w a fa) (hb : SE X w b fb) (hm : behindInMarks op b = false := by rfl) : SE X w (.Compare a [op] [b] pos) (fOp2 g fa fb) :=
  PE.imp (pe_cmpR ho ha hb hm) fun σ H Q ⟨B, L, ρ, S, env, A, gg⟩ => go_op2 h A gg
/-- an item -/
theorem se_ix {r : R2} {g : Op2} (ho : IxR X r) (h : Ok2 (pg X) r g) (ha : SE X w a fa) (hb : SE X w b fb) (hs : PlainIx b := by intro _ _; rfl) : SE X w (.Subscript a b pos) (fOp2 g fa fb) :=
  PE.imp (pe_ix ho ha hb hs) fun σ H Q ⟨B, L, ρ, S, env, A, gg⟩ => go_op2 h A gg
/-- a value as a test: what the value's test is worth -/
theorem st_val (h : SE X w e f) (he : ∀ whole, isTrue e X.env whole = (do let v ← whole; standAt e.pos; holding [v] (truthy v)) := by intro _; rfl) : ST X w e (tVal f) := by
  refine PT.imp (pt_val h he) fun σ H Q ⟨B, L, ρ, S, env, A, gg⟩ => ?_
  refine tE_mono (tE_bind (rel := fun _ => rB) (f := f) A gg) fun x H1 ⟨B, L, ρ, S, d, A, r, g⟩ => ?_
  cases r with
  | bl c => exact ⟨c, rfl, GO.ok0 g A rfl⟩
  | _ => exact g.elim
/-- a comparison as a test -/
theorem st_cmp {op : CmpOp} {r : R2} {g : Op2} (ho : OpR X (compareOp op) r) (h : Ok2 (pg X) r g) (ha : SE X w a fa) (hb : SE X w b fb) (hm : behindInMarks op b = false := by rfl) : ST X w (.Compare a [op] [b] pos) (tVal (fOp2 g fa fb)) := by
  refine PT.imp (pt_cmpR ho ha hb hm) fun σ H Q ⟨B, L, ρ, S, env, A, gg⟩ => ?_
  have key : tE (pg X) w.W w.xm (fOp2 g fa fb) σ H fun x H1 => ∃ k, x = .bl k ∧ Q k H1 := by
    refine tE_mono (tE_bind (rel := fun _ => rB) (f := fOp2 g fa fb) A gg) fun x H1 ⟨B, L, ρ, S, d, A, r, g⟩ => ?_
    cases r with
    | bl c => exact ⟨c, rfl, GO.ok0 g A rfl⟩
    | _ => exact g.elim
  obtain ⟨B, L, ρ, S, env, A, gg⟩ := key
  exact go_op2 h A gg
theorem st_not (h : ST X w a ft) : ST X w (.UnaryOp .Not a pos) (tNot ft) :=
  PT.imp (pt_not h) fun σ H Q ⟨B, L, ρ, S, env, A, gg⟩ => tT_mono (tT_bind (rel := fun _ => rB) A gg) fun x H1 ⟨B, L, ρ, S, A, g⟩ => GO.ok0 g A rfl
theorem sw_and1 (h : ST X w a ft) : SW X w (.BoolOp .And [a] pos) ft := pw_and1 h
theorem sw_or1 (h : ST X w a ft) : SW X w (.BoolOp .Or [a] pos) ft := pw_or1 h
theorem sw_and (ha : ST X w a ft) (hb : SW X w (.BoolOp .And (b :: rest) pos) ft') : SW X w (.BoolOp .And (a :: b :: rest) pos) (Sf.tAnd ft ft') :=
  PW.imp (pw_and ha hb) fun σ H Q ⟨B, L, ρ, S, env, A, gg⟩ => tT_mono (tT_bind (rel := fun _ => rB) A gg) fun x H1 ⟨B, L, ρ, S, A, g⟩ => by
    cases x with
    | true => exact iteT ⟨B, L, ρ, S, env, A, g⟩
    | false => exact iteF (GO.ok0 g A rfl)
theorem sw_or (ha : ST X w a ft) (hb : SW X w (.BoolOp .Or (b :: rest) pos) ft') : SW X w (.BoolOp .Or (a :: b :: rest) pos) (Sf.tOr ft ft') :=
  PW.imp (pw_or ha hb) fun σ H Q ⟨B, L, ρ, S, env, A, gg⟩ => tT_mono (tT_bind (rel := fun _ => rB) A gg) fun x H1 ⟨B, L, ρ, S, A, g⟩ => by
    cases x with
    | true => exact iteT (GO.ok0 g A rfl)
    | false => exact iteF ⟨B, L, ρ, S, env, A, g⟩
theorem st_bool (h : SW X w e ft) : ST X w e ft := PW.pt h
theorem se_if (hc : ST X w c ft) (ha : SE X w a fa) (hb : SE X w b fb) : SE X w (.IfExp c a b pos) (fIf ft fa fb) :=
  PE.imp (pe_ifExp hc ha hb) fun σ H Q ⟨B, L, ρ, S, env, A, gg⟩ => tT_mono (tT_bind (rel := rD (pg X)) A gg) fun x H1 ⟨B, L, ρ, S, A, g⟩ => by
    cases x with
    | true => exact iteT ⟨B, L, ρ, S, env, A, g⟩
    | false => exact iteF ⟨B, L, ρ, S, env, A, g⟩
theorem se_one {op} (h : SE X w a f) : SE X w (.BoolOp op [a] pos) f := pe_one h
theorem se_and (ha : SE X w a fa) (hb : SE X w (.BoolOp .And (b :: rest) pos) fb) : SE X w (.BoolOp .And (a :: b :: rest) pos) (fAnd fa fb) :=
  PE.imp (pe_and ha hb) fun σ H Q ⟨B, L, ρ, S, env, A, gg⟩ => tE_mono (tE_bind (rel := rD (pg X)) A gg) fun x H1 ⟨B, L, ρ, S, d, A, r, g⟩ => by
    cases r with
    | bl c =>
      refine ⟨c, rfl, ?_⟩
      cases c with
      | true => exact iteT ⟨B, L, ρ, S, env, A, g⟩
      | false => exact iteF (GO.ok0 g A (.bl _))
    | _ => exact g.elim
theorem se_or (ha : SE X w a fa) (hb : SE X w (.BoolOp .Or (b :: rest) pos) fb) : SE X w (.BoolOp .Or (a :: b :: rest) pos) (fOr fa fb) :=
  PE.imp (pe_or ha hb) fun σ H Q ⟨B, L, ρ, S, env, A, gg⟩ => tE_mono (tE_bind (rel := rD (pg X)) A gg) fun x H1 ⟨B, L, ρ, S, d, A, r, g⟩ => by
    cases r with
    | bl c =>
      refine ⟨c, rfl, ?_⟩
      cases c with
      | true => exact iteT (GO.ok0 g A (.bl _))
      | false => exact iteF ⟨B, L, ρ, S, env, A, g⟩
    | _ => exact g.elim
theorem se_not (ha : SE X w a fa) : SE X w (.UnaryOp .Not a pos) (fNot fa) :=
  PE.imp (pe_not ha) fun σ H Q ⟨B, L, ρ, S, env, A, gg⟩ => tE_mono (tE_bind (rel := rD (pg X)) A gg) fun x H1 ⟨B, L, ρ, S, d, A, r, g⟩ => by
    cases r with
    | bl c => exact ⟨c, rfl, GO.ok0 g A (.bl _)⟩
    | _ => exact g.elim
theorem sa_nil : SA X w [] fNil := PA.imp pa_nil fun σ H Q ⟨B, L, ρ, S, env, A, gg⟩ => GO.ok0 gg A .nil
theorem sa_cons (ha : SE X w a fa) (hr : SA X w es fs) (hs : starEach (a :: es) X.env = (false, eval a X.env) :: starEach es X.env := by rfl) : SA X w (a :: es) (fCons fa fs) := by
  refine PA.imp (pa_cons ha hr hs) fun σ H Q ⟨B, L, ρ, S, env, A, gg⟩ => ?_
  refine ⟨B, L, ρ, S, env, A, ?_⟩
  revert gg
  unfold fCons
  cases fa env S with
  | ok d S' =>
    intro g v ρ' H' p R r
    have g' := GO.step g p
    refine ⟨B, L, ρ', S', env, A.step p R, ?_⟩
    revert g'
    show GO (pg X) w.W w.xm B L ρ' H' σ (rL (pg X) B) ((fs env S').bind fun y S2 => .ok (d :: y) S2) Q → _
    cases fs env S' with
    | ok d' S2 => exact fun g' v2 ρ2 H2 p2 R2 r2 => g' _ ρ2 H2 p2 R2 (.cons (r.mono p2) r2)
    | exc c S' => exact fun g => g
    | bad => exact fun g => g
  | exc c S' => exact fun g => g
  | bad => exact fun g => g
theorem go_opN {r : List V → Hp → VK → Prop} {g : OpN} (h : OkN (pg X) r g) {σ H Q env} {B L ρ : List Addr} {S : Sto} (A : At (pg X) B L ρ S env σ H) (gg : GO (pg X) w.W w.xm B L ρ H σ (rD (pg X) B) (fOpN g fs env S) Q) :
    tA (pg X) w.W w.xm fs σ H fun x H1 => r x H1 Q :=
  tA_mono (tA_bind (rel := rD (pg X)) A gg) fun x H1 ⟨B, L, ρ, S, d, A, r, g⟩ => let ⟨d', S', e, q⟩ := g.outO; h B L ρ S S' H1 d d' x Q A.rh r e q
/-- f(e, ..), f a built-in function; T(e, ..) -/
theorem se_callB {x : Str} {p : Pos} {id : String} {r : List V → Hp → VK → Prop} {g : OpN} (hc : CallR X (.builtin id) r) (h : OkN (pg X) r g) (ha : SA X w (e :: es) fs) (hg : Gl X x) (hm : X.mg x = none) (hv : bootBuiltins x = some (.builtin id)) (hn : x ≠ "__name__" := by decide) (hdb : (x == ("__debug__" : Str)) = false := by decide)
    (he : starEach (e :: es) X.env = (false, eval e X.env) :: starEach es X.env := by rfl) (hpl : (backTo pos (starEach es X.env)).any (·.1) = false := by rfl) : SE X w (.Call (.Name x p) (e :: es) [] pos) (fOpN g fs) :=
  PE.imp (pe_callB hc hg hm hv ha hn hdb he hpl) fun σ H Q ⟨B, L, ρ, S, env, A, gg⟩ => go_opN h A gg
theorem se_callTy {x : Str} {p : Pos} {T : String} {r : List V → Hp → VK → Prop} {g : OpN} (hc : CallR X (.type T) r) (h : OkN (pg X) r g) (ha : SA X w (e :: es) fs) (hg : Gl X x) (hm : X.mg x = none) (hv : bootBuiltins x = some (.type T)) (hn : x ≠ "__name__" := by decide) (hdb : (x == ("__debug__" : Str)) = false := by decide)
    (he : starEach (e :: es) X.env = (false, eval e X.env) :: starEach es X.env := by rfl) (hpl : (backTo pos (starEach es X.env)).any (·.1) = false := by rfl) : SE X w (.Call (.Name x p) (e :: es) [] pos) (fOpN g fs) :=
  PE.imp (pe_callTy hc hg hm hv ha hn hdb he hpl) fun σ H Q ⟨B, L, ρ, S, env, A, gg⟩ => go_opN h A gg
end
end Sf
end

section
set_option Elab.async false
set_option maxRecDepth 100000
set_option linter.all false
/-! Sf3: the operations by values. -/
namespace Sf
open PySem PySem.Spec PyProof.Rows L2

/-- what a list's place holds -/
def lsW : D → Sto → Option (List D)
  | .lst l, _ => some l
  | .loc n, S => match S[n]? with
    | some (.lst l) => some l
    | _ => none
  | _, _ => none
def lsR : D → Sto → Option (List D)
  | .scr l, _ => some l
  | d, S => lsW d S
def mkL (m : Bool) (l : List D) (S : Sto) : Option (D × Sto) := bif fit l.length then (bif m then some (.loc S.length, S ++ [.lst l]) else some (.lst l, S)) else none
def intsD : List D → Option (List Int)
  | [] => some []
  | .int i :: r => match intsD r with
    | some ns => some (i :: ns)
    | none => none
  | _ :: _ => none
def blsD : List D → Option (List Bool)
  | [] => some []
  | .bl i :: r => match blsD r with
    | some ns => some (i :: ns)
    | none => none
  | _ :: _ => none

section
variable {G : Pg} {B L ρ : List Addr} {S S' : Sto} {H : Hp} {d d' : D} {x : V} {l : List D} {Q : VK}
theorem lsW_ok (R : RH G B L ρ H S) (r : RV G.K B ρ H d x) (e : lsW d S = some l) : ∃ a vs, x = .ref a ∧ H a = some (.lst vs) ∧ RVs G.K B ρ H l vs := by
  cases r with
  | lst h1 h2 h3 h4 => cases e; exact ⟨_, _, rfl, h3, h4⟩
  | @loc n a h =>
    unfold lsW at e
    simp only at e
    cases q : S[n]? with
    | none => rw [q] at e; cases e
    | some o =>
      rw [q] at e
      cases o with
      | lst ds => cases e; obtain ⟨vs, h1, h2⟩ := R.ob n a _ h q; exact ⟨_, _, rfl, h1, h2⟩
      | _ => cases e
  | _ => cases e
theorem lsR_ok (R : RH G B L ρ H S) (r : RV G.K B ρ H d x) (e : lsR d S = some l) : ∃ a vs, x = .ref a ∧ SqL G.K H a vs ∧ RVs G.K B ρ H l vs := by
  cases r with
  | scr h1 h2 => cases e; exact ⟨_, _, rfl, h1.sq, h2⟩
  | lst h1 h2 h3 h4 => obtain ⟨a, vs, e1, e2, e3⟩ := lsW_ok R (.lst h1 h2 h3 h4) e; exact ⟨a, vs, e1, .inl (.inl e2), e3⟩
  | loc h => obtain ⟨a, vs, e1, e2, e3⟩ := lsW_ok R (.loc h) e; exact ⟨a, vs, e1, .inl (.inl e2), e3⟩
  | _ => cases e
theorem intsD_ok : ∀ {l : List D} {ns : List Int} {vs : List V}, RVs G.K B ρ H l vs → intsD l = some ns → vs = ns.map V.int
  | [], _, _, .nil, e => by cases e; rfl
  | d :: r, ns, _, .cons h t, e => by
    cases h with
    | int i =>
      unfold intsD at e
      cases q : intsD r with
      | none => rw [q] at e; cases e
      | some ms => rw [q] at e; cases e; rw [intsD_ok t q]; rfl
    | _ => cases e
theorem blsD_ok : ∀ {l : List D} {ns : List Bool} {vs : List V}, RVs G.K B ρ H l vs → blsD l = some ns → vs = ns.map V.bl
  | [], _, _, .nil, e => by cases e; rfl
  | d :: r, ns, _, .cons h t, e => by
    cases h with
    | bl i =>
      unfold blsD at e
      cases q : blsD r with
      | none => rw [q] at e; cases e
      | some ms => rw [q] at e; cases e; rw [blsD_ok t q]; rfl
    | _ => cases e
abbrev Fin (G : Pg) (B L ρ : List Addr) (H : Hp) (S' : Sto) (d' : D) (Q : VK) : Prop := ∀ v ρ' H', Post L ρ H ρ' H' → RH G B L ρ' H' S' → RV G.K B ρ' H' d' v → Q v H'
theorem here (q : Fin G B L ρ H S' d' Q) (R : RH G B L ρ H S') (r : RV G.K B ρ H d' x) : Q x H := q x ρ H Post.refl R r
theorem mkL_ok {m : Bool} {vs : List V} (R : RH G B L ρ H S) (r : RVs G.K B ρ H l vs) (e : mkL m l S = some (d', S')) (q : Fin G B L ρ H S' d' Q) : vs.length ≤ sizeLine ∧ ∀ p, H p = none → Q (.ref p) (upd H p (.lst vs)) := by
  unfold mkL at e
  cases hf : fit l.length with
  | false => rw [hf] at e; cases e
  | true =>
    rw [hf] at e
    refine ⟨by rw [← r.length]; exact fit_le hf, fun p hp => ?_⟩
    cases m with
    | false =>
      cases e
      exact q _ ρ _ (Post.newV hp) (R.newV hp) (.lst (R.fresh hp).2 (R.fresh hp).1 upd_same (RVs.mono (Post.newV (L := L) hp) _ _ r))
    | true =>
      cases e
      refine q _ (ρ ++ [p]) _ (Post.newL hp) (R.newL hp ⟨vs, upd_same, RVs.mono (Post.newL (L := L) hp) _ _ r⟩) (.loc ?_)
      rw [← R.len, List.getElem?_append_right (Nat.le_refl _)]
      simp
theorem mkT_ok {vs : List V} (R : RH G B L ρ H S) (r : RVs G.K B ρ H l vs) (q : Fin G B L ρ H S (.tup l) Q) : ∀ p, H p = none → Q (.ref p) (upd H p (.tup vs)) := fun p hp =>
  q _ ρ _ (Post.newV hp) (R.newV hp) (.tup ⟨(R.fresh hp).2, (R.fresh hp).1, upd_same⟩ (RVs.mono (Post.newV (L := L) hp) _ _ r))
end

section
open HT
theorem tuple_mulW1 (l : Addr) (items : Array Value) (n : Nat) (dd : Option Addr) (sl : Array (Option Value)) (u : Tok) :
    Meets (Builtin.«tuple.__mul__» ⟨[.ref l, .int 1 u], []⟩) (fun _ R s => s.heap.get? l = some { cls := .type "tuple", dict := dd, data := .seq items n, slots := sl } ∧
      R (.ok (.ret (Value.ref l))) s) :=
  .of_wp fun prog w A R s h => by
    obtain ⟨hp, g, d, tk, os⟩ := s
    obtain ⟨hl, h⟩ := h
    have f1 := AutoSeq1.idx_int
    have ht : Shared.TypeIs ⟨hp, g, d, tk, os⟩ (.ref l) "tuple" := ⟨_, hl, rfl⟩
    wp_walk using wpAny_loadPart' hl
    exact ⟨_, rfl, h⟩
/-- t * 1 is t itself -/
def rRepT1 (K : PySem.W.Frag) : R2 := fun x y H Q => ∃ l xs, x = .ref l ∧ y = .int 1 ∧ SqT K H l xs ∧ Q (.ref l) H
theorem op_repT1 {X : Cx} : OpR X (binaryOp .Mult) (rRepT1 X.K) := by
  intro pins s σ H x y v u Q I rx ry h
  obtain ⟨l, xs, rfl, rfl, hT, q⟩ := h
  cases rx
  obtain ⟨t, rfl⟩ := ry
  obtain ⟨its, r, ⟨⟨cls, dd, data, sl⟩, ho, hc, n, hd⟩, hs⟩ := I.tuple hT
  simp only at hc hd
  subst hc hd
  exact wpAny_binaryOp_repeat_ref (T := "tuple") (U := "int") (by decide) ⟨_, ho, rfl⟩ (fun s' => typeIs_int s' 1 t) noFill_tuple_mul F.fills_int_mul F.slot_int_rmul repeat_tuple F.slot_int_index.lookup
    (call_meets F.slot_int_rmul (typeIs_int s 1 t) F.entry_int_rmul (F.args_int_rmul_2 _ _) (int_rmul_tuple 1 t l its.toArray n dd sl)
      ⟨ho, rfl, ⟨_, ho, rfl⟩, call_meets F.slot_tuple_mul ⟨_, ho, rfl⟩ F.entry_tuple_mul (F.args_tuple_mul_2 _ _) (tuple_mulW1 l its.toArray n dd sl t) ⟨ho, ⟨.ref l, H, I, rfl, q⟩⟩⟩)
end
/-! ### arithmetic -/
def oAdd (m : Bool) : Op2 := fun x y S => match x, y with
  | .int i, .int j => some (.int (i + j), S)
  | .str a, .str b => bif fit (a.length + b.length) then some (.str (a ++ b), S) else none
  | .tup a, .tup b => bif fit (a.length + b.length) then some (.tup (a ++ b), S) else none
  | x, y => match lsW x S, lsW y S with
    | some a, some b => mkL m (a ++ b) S
    | _, _ => none
def oSub : Op2 := fun x y S => match x, y with
  | .int i, .int j => some (.int (i - j), S)
  | _, _ => none
def mulOk (i j : Int) : Bool := Nat.blt i.natAbs 18446744073709551616 || Nat.blt j.natAbs 18446744073709551616 || Nat.blt (i.natAbs.log2 + j.natAbs.log2) 1000000
def oMul (m : Bool) : Op2 := fun x y S => match x, y with
  | .int i, .int j => bif mulOk i j then some (.int (i * j), S) else none
  | .tup l, .int k => bif decide (k = 1) then some (.tup l, S) else bif (!l.isEmpty) && Nat.ble l.length 1000 && decide (2 ≤ k) && decide (k ≤ 1000) then some (.tup (List.replicate k.toNat l).flatten, S) else none
  | x, .int k => match lsW x S with
    | some l => bif decide (-1000000 ≤ k) && decide (k ≤ 1000000) && fit (l.length * k.toNat) then mkL m (List.replicate k.toNat l).flatten S else none
    | none => none
  | _, _ => none
def oFdiv : Op2 := fun x y S => match x, y with
  | .int i, .int j => bif (decide (0 < j)) && Nat.blt j.natAbs.log2 9000 then some (.int (i / j), S) else
      bif (decide (j < 0)) && Nat.blt j.natAbs.log2 9000 then some (.int (i.fdiv j), S) else none
  | _, _ => none
def oMod : Op2 := fun x y S => match x, y with
  | .int i, .int j => bif (decide (0 < j)) then some (.int (i % j), S) else none
  | _, _ => none
def oPow : Op2 := fun x y S => match x, y with
  | .int i, .int j => bif (decide (0 ≤ j)) && (decide (j ≤ 1000000)) && Nat.blt i.natAbs 18446744073709551616 then some (.int (i ^ j.toNat), S) else none
  | _, _ => none
def oNeg : Op1 := fun x S => match x with
  | .int i => some (.int (-i), S)
  | _ => none

section
variable {X : Cx}
abbrev rAddR (K : PySem.W.Frag) : R2 := fun x y H Q => rI0 (fun i j => .int (i + j)) x y H Q ∨ (∃ i j, x = .str i ∧ y = .str j ∧ i.length + j.length ≤ sizeLine ∧ Q (.str (i ++ j)) H) ∨ rCatA K x y H Q ∨ rCat x y H Q
theorem opr_add : OpR X (binaryOp .Add) (rAddR X.K) := op_add.or (op_add_str.or (op_catA.or op_cat))
theorem ok_add {m : Bool} : Ok2 (pg X) (rAddR X.K) (oAdd m) := by
  intro B L ρ S S' H d1 d2 d' x y Q R r1 r2 e q
  have gen : (match lsW d1 S, lsW d2 S with
    | some a, some b => mkL m (a ++ b) S
    | _, _ => none) = some (d', S') → rAddR X.K x y H Q := by
    intro e
    cases e1 : lsW d1 S with
    | none => rw [e1] at e; cases e
    | some a =>
      cases e2 : lsW d2 S with
      | none => rw [e1, e2] at e; cases e
      | some b =>
        rw [e1, e2] at e
        obtain ⟨p, vs, rfl, hp, rv⟩ := lsW_ok R r1 e1
        obtain ⟨p', vs', rfl, hp', rv'⟩ := lsW_ok R r2 e2
        obtain ⟨z, q⟩ := mkL_ok R (rv.append rv') e q
        exact .inr (.inr (.inr ⟨p, p', vs, vs', rfl, rfl, hp, hp', by simpa using z, q⟩))
  cases r1 with
  | int i =>
    cases r2 with
    | int j => cases e; exact .inl ⟨i, j, rfl, rfl, here q R (.int _)⟩
    | _ => exact gen e
  | str a =>
    cases r2 with
    | str b =>
      unfold oAdd at e
      cases hf : fit (a.length + b.length) with
      | false => simp [hf] at e
      | true => simp [hf] at e; obtain ⟨rfl, rfl⟩ := e; exact .inr (.inl ⟨a, b, rfl, rfl, fit_le hf, here q R (.str _)⟩)
    | _ => exact gen e
  | @tup a vs ds h1 h2 =>
    cases r2 with
    | @tup b ws es k1 k2 =>
      unfold oAdd at e
      cases hf : fit (ds.length + es.length) with
      | false => simp [hf] at e
      | true =>
        simp [hf] at e; obtain ⟨rfl, rfl⟩ := e
        refine .inr (.inr (.inl ⟨a, b, vs, ws, rfl, rfl, h1.sq, k1.sq, by rw [← h2.length, ← k2.length]; exact fit_le hf, fun z => ?_, fun _ z => ?_, fun _ _ p hp => ?_⟩))
        · subst z
          cases h2
          exact here q R (.tup k1 (by simpa using k2))
        · subst z
          cases k2
          exact here q R (.tup h1 (by simpa using h2))
        · exact mkT_ok R (h2.append k2) q p hp
    | _ => exact gen e
  | _ => exact gen e
theorem ok_sub : Ok2 (pg X) (rI0 fun i j => .int (i - j)) oSub := by
  intro B L ρ S S' H d1 d2 d' x y Q R r1 r2 e q
  cases r1 with
  | int i =>
    cases r2 with
    | int j => cases e; exact ⟨i, j, rfl, rfl, here q R (.int _)⟩
    | _ => cases e
  | _ => cases e
theorem mulOk_ok {i j : Int} (h : mulOk i j = true) : CMul i j ∨ CMulW i j := by
  unfold mulOk at h
  rw [Bool.or_eq_true, Bool.or_eq_true] at h
  rcases h with (h | h) | h
  · have h := Nat.le_of_ble_eq_true h
    exact .inl (.inl (by omega))
  · have h := Nat.le_of_ble_eq_true h
    exact .inl (.inr (by omega))
  · exact .inr (Nat.le_of_ble_eq_true h)
abbrev rMulR (K : PySem.W.Frag) : R2 := fun x y H Q => (rI CMul (fun i j => .int (i * j)) x y H Q ∨ rI CMulW (fun i j => .int (i * j)) x y H Q) ∨ rRepT K x y H Q ∨ rRep x y H Q ∨ rRepT1 K x y H Q
theorem opr_mul : OpR X (binaryOp .Mult) (rMulR X.K) := (op_mul.or op_mulW).or (op_repT.or (op_rep.or op_repT1))
theorem ok_mul {m : Bool} : Ok2 (pg X) (rMulR X.K) (oMul m) := by
  intro B L ρ S S' H d1 d2 d' x y Q R r1 r2 e q
  have gen : ∀ k : Int, y = .int k → (match lsW d1 S with
    | some l => bif decide (-1000000 ≤ k) && decide (k ≤ 1000000) && fit (l.length * k.toNat) then mkL m (List.replicate k.toNat l).flatten S else none
    | none => none) = some (d', S') → rMulR X.K x y H Q := by
    intro k hy e
    subst hy
    cases e1 : lsW d1 S with
    | none => rw [e1] at e; cases e
    | some l =>
      rw [e1] at e
      obtain ⟨p, vs, rfl, hp, rv⟩ := lsW_ok R r1 e1
      simp only at e
      cases hf : (decide (-1000000 ≤ k) && decide (k ≤ 1000000) && fit (l.length * k.toNat)) with
      | false => rw [hf] at e; cases e
      | true =>
        rw [hf] at e
        rw [Bool.and_eq_true, Bool.and_eq_true] at hf
        obtain ⟨⟨h1, h2⟩, h3⟩ := hf
        have h1 := of_decide_eq_true h1
        have h2 := of_decide_eq_true h2
        obtain ⟨z, q⟩ := mkL_ok R (rv.rep k.toNat) e q
        exact .inr (.inr (.inl ⟨p, k, vs, rfl, rfl, hp, by omega, by omega, by rw [← rv.length]; exact fit_le h3, q⟩))
  cases r2 with
  | int k =>
    cases r1 with
    | int i =>
      unfold oMul at e
      cases hf : mulOk i k with
      | false => simp [hf] at e
      | true =>
        simp [hf] at e; obtain ⟨rfl, rfl⟩ := e
        rcases mulOk_ok hf with c | c
        · exact .inl (.inl ⟨i, k, rfl, rfl, c, here q R (.int _)⟩)
        · exact .inl (.inr ⟨i, k, rfl, rfl, c, here q R (.int _)⟩)
    | @tup a vs ds h1 h2 =>
      unfold oMul at e
      simp only at e
      cases h1k : decide (k = 1) with
      | true =>
        rw [h1k] at e
        cases e
        exact .inr (.inr (.inr ⟨a, vs, rfl, by rw [of_decide_eq_true h1k], h1.sq, here q R (.tup h1 h2)⟩))
      | false =>
      rw [h1k] at e
      simp only [cond_false] at e
      cases hf : ((!ds.isEmpty) && Nat.ble ds.length 1000 && decide (2 ≤ k) && decide (k ≤ 1000)) with
      | false => rw [hf] at e; cases e
      | true =>
        rw [hf] at e
        cases e
        rw [Bool.and_eq_true, Bool.and_eq_true, Bool.and_eq_true] at hf
        obtain ⟨⟨⟨g1, g2⟩, g3⟩, g4⟩ := hf
        refine .inr (.inl ⟨a, k, vs, rfl, rfl, h1.sq, ?_, of_decide_eq_true g3, of_decide_eq_true g4, by rw [← h2.length]; exact Nat.le_of_ble_eq_true g2, mkT_ok R (h2.rep _) q⟩)
        rintro rfl
        cases h2
        cases g1
    | _ => exact gen k rfl e
  | _ => cases r1 <;> cases e
abbrev rFdv : R2 := rI (fun _ j => j ≠ 0 ∧ j.natAbs.log2 < 9000) fun i j => .int (i.fdiv j)
theorem opr_fdiv : OpR X (binaryOp .FloorDiv) rFdv := opI fun i j _ _ _ _ _ hc q => floordiv_int hc.1 q (.inl (PyProof.noPylong_of_log2 hc.2))
theorem ok_fdiv : Ok2 (pg X) rFdv oFdiv := by
  intro B L ρ S S' H d1 d2 d' x y Q R r1 r2 e q
  cases r1 with
  | int i =>
    cases r2 with
    | int j =>
      unfold oFdiv at e
      simp only at e
      cases hf : ((decide (0 < j)) && Nat.blt j.natAbs.log2 9000) with
      | true =>
        rw [hf] at e
        cases e
        rw [Bool.and_eq_true] at hf
        have h1 := of_decide_eq_true hf.1
        refine ⟨i, j, rfl, rfl, ⟨by omega, Nat.le_of_ble_eq_true hf.2⟩, ?_⟩
        show Q (.int (i.fdiv j)) H
        rw [Int.fdiv_eq_ediv_of_nonneg i (show (0 : Int) ≤ j by omega)]
        exact here q R (.int _)
      | false =>
        rw [hf] at e
        cases hf : ((decide (j < 0)) && Nat.blt j.natAbs.log2 9000) with
        | true =>
          rw [hf] at e
          cases e
          rw [Bool.and_eq_true] at hf
          have h1 := of_decide_eq_true hf.1
          exact ⟨i, j, rfl, rfl, ⟨by omega, Nat.le_of_ble_eq_true hf.2⟩, here q R (.int _)⟩
        | false => rw [hf] at e; cases e
    | _ => cases e
  | _ => cases e
theorem ok_mod : Ok2 (pg X) (rI (fun _ j => 0 < j) fun i j => .int (i % j)) oMod := by
  intro B L ρ S S' H d1 d2 d' x y Q R r1 r2 e q
  cases r1 with
  | int i =>
    cases r2 with
    | int j =>
      unfold oMod at e
      simp only at e
      cases hf : (decide (0 < j)) with
      | true => rw [hf] at e; cases e; exact ⟨i, j, rfl, rfl, of_decide_eq_true hf, here q R (.int _)⟩
      | false => rw [hf] at e; cases e
    | _ => cases e
  | _ => cases e
theorem ok_pow : Ok2 (pg X) (rI CPow fun i j => .int (i ^ j.toNat)) oPow := by
  intro B L ρ S S' H d1 d2 d' x y Q R r1 r2 e q
  cases r1 with
  | int i =>
    cases r2 with
    | int j =>
      unfold oPow at e
      simp only at e
      cases hf : ((decide (0 ≤ j)) && (decide (j ≤ 1000000)) && Nat.blt i.natAbs 18446744073709551616) with
      | true =>
        rw [hf] at e; cases e
        rw [Bool.and_eq_true, Bool.and_eq_true] at hf
        exact ⟨i, j, rfl, rfl, ⟨of_decide_eq_true hf.1.1, of_decide_eq_true hf.1.2, Nat.le_of_ble_eq_true hf.2⟩, here q R (.int _)⟩
      | false => rw [hf] at e; cases e
    | _ => cases e
  | _ => cases e
theorem ok_neg : Ok1 (pg X) (rU fun i => .int (-i)) oNeg := by
  intro B L ρ S S' H d d' x Q R r e q
  cases r with
  | int i => cases e; exact ⟨i, rfl, here q R (.int _)⟩
  | _ => cases e
end

/-! ### comparisons -/
mutual
def D.py : D → Option PyData
  | .non => some .none
  | .bl b => some (.bool b)
  | .int i => some (.int i)
  | .str x => some (.str x)
  | .tup l => (D.pys l).map .tuple
  | .lst l => (D.pys l).map .list
  | .scr l => (D.pys l).map .list
  | _ => none
def D.pys : List D → Option (List PyData)
  | [] => some []
  | d :: ds => match D.py d, D.pys ds with
    | some k, some ks => some (k :: ks)
    | _, _ => none
end
mutual
theorem py_ok {K : PySem.W.Frag} {B ρ : List Addr} {H : Hp} : ∀ (d : D) (x : V) (p : PyData), RV K B ρ H d x → D.py d = some p → Dp K H x p
  | .und, _, _, h, _ => by cases h
  | .non, _, _, .non, e => by cases e; exact .non
  | .bl b, _, _, .bl _, e => by cases e; exact .bl b
  | .int b, _, _, .int _, e => by cases e; exact .int b
  | .str b, _, _, .str _, e => by cases e; exact .str b
  | .tup l, _, p, .tup h r, e => by
    unfold D.py at e
    cases q : D.pys l with
    | none => rw [q] at e; cases e
    | some ks => rw [q] at e; cases e; exact .tup h.sq (pys_ok l _ ks r q)
  | .lst l, _, p, .lst h1 h2 h r, e => by
    unfold D.py at e
    cases q : D.pys l with
    | none => rw [q] at e; cases e
    | some ks => rw [q] at e; cases e; exact .lst (.inl (.inl h)) (pys_ok l _ ks r q)
  | .scr l, _, p, .scr h r, e => by
    unfold D.py at e
    cases q : D.pys l with
    | none => rw [q] at e; cases e
    | some ks => rw [q] at e; cases e; exact .lst h.sq (pys_ok l _ ks r q)
  | .loc _, _, _, _, e => by cases e
  | .glob _, _, _, _, e => by cases e
theorem pys_ok {K : PySem.W.Frag} {B ρ : List Addr} {H : Hp} : ∀ (ds : List D) (xs : List V) (ps : List PyData), RVs K B ρ H ds xs → D.pys ds = some ps → DpAll K H xs ps
  | [], _, _, .nil, e => by cases e; exact .nil
  | d :: ds, _, ps, .cons h t, e => by
    unfold D.pys at e
    cases q : D.py d with
    | none => rw [q] at e; cases e
    | some k =>
      cases q' : D.pys ds with
      | none => rw [q, q'] at e; cases e
      | some ks => rw [q, q'] at e; cases e; exact .cons (py_ok d _ _ h q) (pys_ok ds _ _ t q')
end
/-- a list's place seen as the list -/
def deref (S : Sto) : D → D
  | .loc n => match S[n]? with
    | some (.lst l) => .lst l
    | _ => .loc n
  | d => d
theorem deref_ok {G : Pg} {B L ρ : List Addr} {S : Sto} {H : Hp} {d : D} {x : V} {p : PyData} (R : RH G B L ρ H S) (r : RV G.K B ρ H d x) (e : D.py (deref S d) = some p) : Dp G.K H x p := by
  cases d with
  | loc n =>
    cases r with
    | @loc _ a h =>
    unfold deref at e
    simp only at e
    cases q : S[n]? with
    | none => rw [q] at e; cases e
    | some o =>
      rw [q] at e
      cases o with
      | lst l =>
        obtain ⟨vs, h1, h2⟩ := R.ob n a _ h q
        simp only at e
        unfold D.py at e
        cases q : D.pys l with
        | none => rw [q] at e; cases e
        | some ks => rw [q] at e; cases e; exact .lst (.inl (.inl h1)) (pys_ok l _ ks h2 q)
      | _ => cases e
  | _ => exact py_ok _ _ _ r e
/-- x == y, as a bool -/
def eqB (x y : D) (S : Sto) : Option Bool := match x, y with
  | .int i, .int j => some (decide (i = j))
  | .non, .non => some true
  | .non, .int _ => some false
  | .int _, .non => some false
  | .bl a, .bl b => some (a == b)
  | .str a, .str b => some (decide (a = b))
  | x, y => match D.py (deref S x), D.py (deref S y) with
    | some p, some q => bif SeqAt.shaped p && SeqAt.shaped q then some (PyData.eqv p q) else none
    | _, _ => none
def oEq : Op2 := fun x y S => match eqB x y S with
  | some b => some (.bl b, S)
  | none => none
def oNe : Op2 := fun x y S => match eqB x y S with
  | some b => some (.bl (!b), S)
  | none => none
def oCmp (p : Int → Int → Bool) (q : List Int → List Int → Bool) : Op2 := fun x y S => match x, y with
  | .int i, .int j => some (.bl (p i j), S)
  | .tup a, .tup b => match intsD a, intsD b with
    | some ns, some ms => some (.bl (q ns ms), S)
    | _, _ => none
  | _, _ => none
def oCmpI (p : Int → Int → Bool) : Op2 := fun x y S => match x, y with
  | .int i, .int j => some (.bl (p i j), S)
  | _, _ => none
abbrev oLt : Op2 := oCmp (fun i j => decide (i < j)) HT.lexLt
abbrev oLe : Op2 := oCmpI fun i j => decide (i ≤ j)
abbrev oGt : Op2 := oCmpI fun i j => decide (j < i)
abbrev oGe : Op2 := oCmpI fun i j => decide (j ≤ i)
def isNon : D → Bool
  | .non => true
  | _ => false
def oIs : Op2 := fun x y S => match y with
  | .non => some (.bl (isNon x), S)
  | .bl b => match x with
    | .bl a => some (.bl (a == b), S)
    | _ => none
  | _ => none
def oIsN : Op2 := fun x y S => match y with
  | .non => some (.bl (!isNon x), S)
  | .bl b => match x with
    | .bl a => some (.bl (!(a == b)), S)
    | _ => none
  | _ => none
section
variable {X : Cx}
abbrev rEqR (K : PySem.W.Frag) : R2 := fun x y H Q => rEq x y H Q ∨ rEqD K x y H Q
abbrev rNeR (K : PySem.W.Frag) : R2 := fun x y H Q => rNe x y H Q ∨ rNeD K x y H Q
theorem opr_eq {k : Nat} (hr : Room k X.A) : OpR X (compareOp .Eq) (rEqR X.K) := op_eq.or (op_eqD hr.units)
theorem opr_ne {k : Nat} (hr : Room k X.A) : OpR X (compareOp .NotEq) (rNeR X.K) := op_ne.or (op_neD hr.units)
theorem eqB_ok {G : Pg} {B L ρ : List Addr} {S : Sto} {H : Hp} {d1 d2 : D} {x y : V} {b : Bool} (R : RH G B L ρ H S) (r1 : RV G.K B ρ H d1 x) (r2 : RV G.K B ρ H d2 y) (e : eqB d1 d2 S = some b) :
    (scal x y = true ∧ decide (x = y) = b) ∨ ∃ p q, Dp G.K H x p ∧ Dp G.K H y q ∧ SeqAt.shaped p = true ∧ SeqAt.shaped q = true ∧ PyData.eqv p q = b := by
  have gen : (match D.py (deref S d1), D.py (deref S d2) with
    | some p, some q => bif SeqAt.shaped p && SeqAt.shaped q then some (PyData.eqv p q) else none
    | _, _ => none) = some b → ∃ p q, Dp G.K H x p ∧ Dp G.K H y q ∧ SeqAt.shaped p = true ∧ SeqAt.shaped q = true ∧ PyData.eqv p q = b := by
    intro e
    cases e1 : D.py (deref S d1) with
    | none => rw [e1] at e; cases e
    | some p =>
      cases e2 : D.py (deref S d2) with
      | none => rw [e1, e2] at e; cases e
      | some q =>
        rw [e1, e2] at e
        simp only at e
        cases hf : (SeqAt.shaped p && SeqAt.shaped q) with
        | false => rw [hf] at e; cases e
        | true =>
          rw [hf] at e
          cases e
          rw [Bool.and_eq_true] at hf
          exact ⟨p, q, deref_ok R r1 e1, deref_ok R r2 e2, hf.1, hf.2, rfl⟩
  cases r1 with
  | int i =>
    cases r2 with
    | int j => cases e; exact .inl ⟨rfl, by simp⟩
    | non => cases e; exact .inl ⟨rfl, by simp⟩
    | _ => exact .inr (gen e)
  | non =>
    cases r2 with
    | int j => cases e; exact .inl ⟨rfl, by simp⟩
    | non => cases e; exact .inl ⟨rfl, by simp⟩
    | _ => exact .inr (gen e)
  | bl a =>
    cases r2 with
    | bl j => cases e; exact .inl ⟨rfl, by rw [dec_bl]⟩
    | _ => exact .inr (gen e)
  | str a =>
    cases r2 with
    | str j => cases e; exact .inl ⟨rfl, decide_eq_decide.mpr ⟨fun z => by cases z; rfl, fun z => by rw [z]⟩⟩
    | _ => exact .inr (gen e)
  | _ => exact .inr (gen e)
theorem ok_eq : Ok2 (pg X) (rEqR X.K) oEq := by
  intro B L ρ S S' H d1 d2 d' x y Q R r1 r2 e q
  unfold oEq at e
  cases h : eqB d1 d2 S with
  | none => rw [h] at e; cases e
  | some b =>
    rw [h] at e; cases e
    rcases eqB_ok R r1 r2 h with ⟨h1, h2⟩ | ⟨p, p', h1, h2, h3, h4, h5⟩
    · exact .inl ⟨h1, by rw [h2]; exact here q R (.bl _)⟩
    · exact .inr ⟨p, p', h1, h2, h3, h4, by rw [h5]; exact here q R (.bl _)⟩
theorem ok_ne : Ok2 (pg X) (rNeR X.K) oNe := by
  intro B L ρ S S' H d1 d2 d' x y Q R r1 r2 e q
  unfold oNe at e
  cases h : eqB d1 d2 S with
  | none => rw [h] at e; cases e
  | some b =>
    rw [h] at e; cases e
    rcases eqB_ok R r1 r2 h with ⟨h1, h2⟩ | ⟨p, p', h1, h2, h3, h4, h5⟩
    · exact .inl ⟨h1, by rw [h2]; exact here q R (.bl _)⟩
    · exact .inr ⟨p, p', h1, h2, h3, h4, by rw [h5]; exact here q R (.bl _)⟩
theorem ok_cmpI {p : Int → Int → Bool} : Ok2 (pg X) (rI0 fun i j => .bl (p i j)) (oCmpI p) := by
  intro B L ρ S S' H d1 d2 d' x y Q R r1 r2 e q
  cases r1 with
  | int i =>
    cases r2 with
    | int j => cases e; exact ⟨i, j, rfl, rfl, here q R (.bl _)⟩
    | _ => cases e
  | _ => cases e
abbrev rLtR (K : PySem.W.Frag) : R2 := fun x y H Q => rI0 (fun i j => .bl (decide (i < j))) x y H Q ∨ rLtT K x y H Q
theorem opr_lt {k : Nat} (hr : Room k X.A) : OpR X (compareOp .Lt) (rLtR X.K) := op_lt.or (op_ltT hr.units0)
theorem ok_lt : Ok2 (pg X) (rLtR X.K) oLt := by
  intro B L ρ S S' H d1 d2 d' x y Q R r1 r2 e q
  cases r1 with
  | int i =>
    cases r2 with
    | int j => cases e; exact .inl ⟨i, j, rfl, rfl, here q R (.bl _)⟩
    | _ => cases e
  | @tup a vs ds h1 h2 =>
    cases r2 with
    | @tup b ws es k1 k2 =>
      unfold oLt oCmp at e
      simp only at e
      cases e1 : intsD ds with
      | none => rw [e1] at e; cases e
      | some ns =>
        cases e2 : intsD es with
        | none => rw [e1, e2] at e; cases e
        | some ms =>
          rw [e1, e2] at e; cases e
          have z1 := intsD_ok h2 e1
          have z2 := intsD_ok k2 e2
          subst z1 z2
          exact .inr ⟨a, b, ns, ms, rfl, rfl, h1.sq, k1.sq, here q R (.bl _)⟩
    | _ => cases e
  | _ => cases e
abbrev rIsR : R2 := fun x y H Q => (y = .non ∧ Q (.bl (decide (x = .non))) H) ∨ rIsB x y H Q
abbrev rIsNR : R2 := fun x y H Q => (y = .non ∧ Q (.bl (!decide (x = .non))) H) ∨ rNotB x y H Q
theorem opr_is : OpR X (compareOp .Is) rIsR := op_isN.or op_isBl
theorem opr_isN : OpR X (compareOp .IsNot) rIsNR := op_notN.or op_notBl
theorem isNon_ok {K : PySem.W.Frag} {B ρ : List Addr} {H : Hp} {d : D} {x : V} (r : RV K B ρ H d x) : decide (x = .non) = isNon d := by
  cases r with
  | glob h => simp [isNon, h]
  | _ => simp [isNon]
theorem ok_is : Ok2 (pg X) rIsR oIs := by
  intro B L ρ S S' H d1 d2 d' x y Q R r1 r2 e q
  cases r2 with
  | non => cases e; exact .inl ⟨rfl, by rw [isNon_ok r1]; exact here q R (.bl _)⟩
  | bl b =>
    cases r1 with
    | bl a =>
      cases e
      refine .inr ⟨a, b, rfl, rfl, ?_⟩
      rw [← Bool.beq_eq_decide_eq]
      exact here q R (.bl _)
    | _ => cases e
  | _ => cases e
theorem ok_isN : Ok2 (pg X) rIsNR oIsN := by
  intro B L ρ S S' H d1 d2 d' x y Q R r1 r2 e q
  cases r2 with
  | non => cases e; exact .inl ⟨rfl, by rw [isNon_ok r1]; exact here q R (.bl _)⟩
  | bl b =>
    cases r1 with
    | bl a =>
      cases e
      refine .inr ⟨a, b, rfl, rfl, ?_⟩
      rw [← Bool.beq_eq_decide_eq]
      exact here q R (.bl _)
    | _ => cases e
  | _ => cases e
end
end Sf
end

section
set_option Elab.async false
set_option maxRecDepth 100000
set_option linter.all false
/-! Sf4: items, slices, built-in functions, methods. -/
namespace Sf
open PySem PySem.Spec PyProof.Rows L2

/-! ### items -/
def ixD (l : List D) (i : Int) : Option D := bif decide (0 ≤ i) then l[i.toNat]? else bif decide (-(l.length : Int) ≤ i) then l[(i + l.length).toNat]? else none
def oIx : Op2 := fun x y S => match y with
  | .int i => match x with
    | .tup l => match ixD l i with
      | some d => some (d, S)
      | none => none
    | x => match lsR x S with
      | some l => match ixD l i with
        | some d => some (d, S)
        | none => none
      | none => none
  | _ => none
section
variable {X : Cx} {G : Pg} {B L ρ : List Addr} {S S' : Sto} {H : Hp} {d d' : D} {x : V} {l : List D} {vs : List V} {Q : VK}
theorem ixD_ok {i : Int} (r : RVs G.K B ρ H l vs) (e : ixD l i = some d) : ∃ v, atI vs i = some v ∧ RV G.K B ρ H d v := by
  unfold ixD at e
  unfold atI ixN
  rw [← r.length]
  by_cases h0 : 0 ≤ i
  · rw [decide_eq_true h0] at e
    obtain ⟨v, e1, r1⟩ := r.get (show l[i.toNat]? = some d from e)
    have hlt : i.toNat < l.length := (List.getElem?_eq_some_iff.mp (show l[i.toNat]? = some d from e)).1
    refine ⟨v, ?_, r1⟩
    rw [if_pos h0, if_pos (by omega)]
    exact e1
  · rw [decide_eq_false h0] at e
    by_cases h1 : -(l.length : Int) ≤ i
    · rw [decide_eq_true h1] at e
      obtain ⟨v, e1, r1⟩ := r.get (show l[(i + l.length).toNat]? = some d from e)
      refine ⟨v, ?_, r1⟩
      rw [if_neg h0, if_pos h1]
      exact e1
    · rw [decide_eq_false h1] at e; cases e
abbrev rIxR (K : PySem.W.Frag) : R2 := fun x y H Q => rIxL K x y H Q ∨ rIxT K x y H Q
theorem ixr : IxR X (rIxR X.K) := ix_list.or ix_tup
theorem ok_ix : Ok2 (pg X) (rIxR X.K) oIx := by
  intro B L ρ S S' H d1 d2 d' x y Q R r1 r2 e q
  cases r2 with
  | int i =>
    have gen : (match lsR d1 S with
      | some l => match ixD l i with
        | some d => some (d, S)
        | none => none
      | none => none) = some (d', S') → rIxR X.K x (.int i) H Q := by
      intro e
      cases e1 : lsR d1 S with
      | none => rw [e1] at e; cases e
      | some l =>
        rw [e1] at e
        simp only at e
        cases e2 : ixD l i with
        | none => rw [e2] at e; cases e
        | some d =>
          rw [e2] at e; cases e
          obtain ⟨a, vs, rfl, h1, h2⟩ := lsR_ok R r1 e1
          obtain ⟨v, e3, r3⟩ := ixD_ok (G := pg X) h2 e2
          exact .inl ⟨a, vs, i, v, rfl, rfl, h1, e3, here q R r3⟩
    cases r1 with
    | @tup a vs ds h1 h2 =>
      unfold oIx at e
      simp only at e
      cases e2 : ixD ds i with
      | none => rw [e2] at e; cases e
      | some d =>
        rw [e2] at e; cases e
        obtain ⟨v, e3, r3⟩ := ixD_ok (G := pg X) h2 e2
        exact .inr ⟨a, vs, i, v, rfl, rfl, h1.sq, e3, here q R r3⟩
    | _ => exact gen e
  | _ => cases e
/-- the same by a bare getItem, of a list -/
theorem pget_list : PGet X (rIxL X.K) := by
  intro pins s σ H o i ov iv Q I ro ri h
  obtain ⟨p, xs, k, z, rfl, rfl, hq, he, q⟩ := h
  cases ro
  obtain ⟨t, rfl⟩ := ri
  obtain ⟨its, r, pl, hz⟩ := I.list hq
  obtain ⟨j, h1, h2, h3, h4, h5⟩ := atI_get he
  obtain ⟨w, ew, rw'⟩ := r.get h2
  have hl := r.length
  have hn := line63
  have fin : EP X pins σ Q w s := ⟨z, H, I, rw', q⟩
  by_cases h0 : 0 ≤ k
  · have hj : k.toNat = j := by
      rw [seqIndex_of h0 h5] at h1
      exact Option.some.inj h1
    exact wpAny_getItem_list (x := w) pl.isList h0 (by omega) (by rw [hj]; simpa using ew) fin
  · have hj : (k + (its.toArray.size : Int)).toNat = j := by
      rw [seqIndex_neg (by omega) h4] at h1
      rw [List.size_toArray, ← hl]
      exact Option.some.inj h1
    exact wpAny_getItem_list_neg pl.isList (by omega) (by rw [List.size_toArray] <;> omega) (by omega) (by rw [hj]; simpa using ew) fin
end

/-! ### slices -/
def cutD (l : List D) (lo hi : Option Int) : List D := (l.drop (HT.sIx l.length 0 lo)).take (HT.sIx l.length l.length hi - HT.sIx l.length 0 lo)
theorem cutD_ok {K : PySem.W.Frag} {B ρ : List Addr} {H : Hp} {l : List D} {vs : List V} (r : RVs K B ρ H l vs) (lo hi : Option Int) : RVs K B ρ H (cutD l lo hi) (cutV vs lo hi) := by
  unfold cutD cutV
  rw [← r.length]
  exact (r.drop _).take _
abbrev FO := En → Sto → Out (Option Int)
def fNoPart : FO := fun _ S => .ok none S
def fPart (f : FE) : FO := fun env S => (f env S).bind fun x S1 => match x with
  | .int i => .ok (some i) S1
  | _ => .bad
abbrev rO : List Addr → Hp → Option Int → Option Int → Prop := fun _ _ a b => a = b
def tO (G : Pg) (W : WX) (xm : XM) (f : FO) : TO := fun σ H Q => ∃ B L ρ S env, At G B L ρ S env σ H ∧ GO G W xm B L ρ H σ rO (f env S) Q
theorem PO.imp {X : Cx} {e : Option Expr} {t t' : TO} (h : PO X e t) (i : ∀ σ H Q, t' σ H Q → t σ H Q) : PO X e t' := ⟨fun pins s σ H Q I q => h.run pins s σ H Q I (i σ H Q q)⟩
abbrev SO' (X : Cx) (w : Wx) (e : Option Expr) (f : FO) : Prop := PO X e (tO (pg X) w.W w.xm f)
section
variable {X : Cx} {w : Wx} {e : Expr} {fe : FE}
theorem so_none : SO' X w none fNoPart := PO.imp po_none fun σ H Q ⟨B, L, ρ, S, env, A, g⟩ => GO.ok0 g A rfl
theorem so_some (h : SE X w e fe) : SO' X w (some e) (fPart fe) := PO.imp (po_some h) fun σ H Q ⟨B, L, ρ, S, env, A, gg⟩ =>
  tE_mono (tE_bind (rel := fun _ => rO) A gg) fun x H1 ⟨B, L, ρ, S, d, A, r, g⟩ => by
    cases r with
    | int i => exact ⟨i, rfl, GO.ok0 g A rfl⟩
    | _ => exact g.elim
end
def wholeB (n : Nat) (lo hi : Option Int) : Bool := Nat.beq (HT.sIx n 0 lo) 0 && Nat.beq (HT.sIx n n hi) n
def oCut (m : Bool) (x : D) (lo hi : Option Int) (S : Sto) : Option (D × Sto) := match x with
  | .tup l => some (.tup (cutD l lo hi), S)
  | x => match lsR x S with
    | some l => mkL m (cutD l lo hi) S
    | none => none
def fCut (m : Bool) (a : FE) (lo hi : FO) : FE := fun env S => (a env S).bind fun x S1 => (lo env S1).bind fun l S2 => (hi env S2).bind fun u S3 => outO (oCut m x l u S3)
section
variable {X : Cx} {w : Wx} {e : Expr} {lo hi : Option Expr} {fe : FE} {fl fh : FO} {p2 pos : Pos}
theorem cutD_whole {l : List D} {lo hi : Option Int} (h : HT.sIx l.length 0 lo = 0 ∧ HT.sIx l.length l.length hi = l.length) : cutD l lo hi = l := by
  unfold cutD; rw [h.1, h.2]; simp
theorem se_cut {m : Bool} (he : SE X w e fe) (hl : SO' X w lo fl) (hh : SO' X w hi fh) : SE X w (.Subscript e (.Slice lo hi none p2) pos) (fCut m fe fl fh) := by
  refine PE.imp (pe_slice (sl_tupA.or sl_list) he hl hh) fun σ H Q ⟨B, L, ρ, S, env, A, gg⟩ => ?_
  refine ⟨B, L, ρ, S, env, A, ?_⟩
  revert gg
  unfold fCut
  cases fe env S with
  | ok d S' =>
    intro g v ρ' H' p R r
    have g' := GO.step g p
    refine ⟨B, L, ρ', S', env, A.step p R, ?_⟩
    revert g'
    show GO (pg X) w.W w.xm B L ρ' H' σ (rD (pg X) B) ((fl env S').bind fun l S2 => (fh env S2).bind fun u S3 => outO (oCut m d l u S3)) Q → _
    cases fl env S' with
    | ok d' S2 =>
      intro g' v2 ρ2 H2 p2 R2 r2
      have g2 := GO.step g' p2
      cases r2
      refine ⟨B, L, ρ2, S2, env, (A.step p R).step p2 R2, ?_⟩
      revert g2
      show GO (pg X) w.W w.xm B L ρ2 H2 σ (rD (pg X) B) ((fh env S2).bind fun u S3 => outO (oCut m d d' u S3)) Q → _
      cases fh env S2 with
      | ok u S3 =>
        intro g2 v3 ρ3 H3 p3 R3 r3
        have g3 := GO.step g2 p3
        cases r3
        obtain ⟨d'', S'', e, q⟩ := GO.outO g3
        have r' : RV X.K B ρ3 H3 d v := (r.mono p2).mono p3
        have gen : (match lsR d S3 with
          | some l => mkL m (cutD l d' u) S3
          | none => none) = some (d'', S'') → rSlA X.K v d' u H3 Q ∨ rSlL X.K v d' u H3 Q := by
          intro e
          cases e1 : lsR d S3 with
          | none => rw [e1] at e; cases e
          | some l =>
            rw [e1] at e
            obtain ⟨a, vs, rfl, h1, h2⟩ := lsR_ok (G := pg X) R3 r' e1
            exact .inr ⟨a, vs, rfl, h1, (mkL_ok R3 (cutD_ok h2 d' u) e q).2⟩
        cases r' with
        | @tup a vs ds h1 h2 =>
          cases e
          refine .inl ⟨a, vs, rfl, h1.sq, fun z => ?_, fun _ => mkT_ok R3 (cutD_ok h2 _ _) q⟩
          rw [← h2.length] at z
          rw [cutD_whole z] at q
          exact here (G := pg X) q R3 (.tup h1 h2)
        | _ => exact gen e
      | exc c S' => exact fun g => g
      | bad => exact fun g => g
    | exc c S' => exact fun g => g
    | bad => exact fun g => g
  | exc c S' => exact fun g => g
  | bad => exact fun g => g
/-- xs[::-1] of a list -/
def oRev (m : Bool) : Op1 := fun x S => match lsR x S with
  | some l => mkL m l.reverse S
  | none => none
theorem se_rev {m : Bool} {k : Nat} {p1 p2 p3 : Pos} (he : SE X w e fe) : SE X w (.Subscript e (.Slice none none (some (.UnaryOp .USub (.Constant (.int 1) k p1) p2)) p3) pos) (fOp1 (oRev m) fe) :=
  PE.imp (pe_revL he) fun σ H Q ⟨B, L, ρ, S, env, A, gg⟩ => go_op1 (X := X) (r := fun x H1 Q => ∃ a xs, x = .ref a ∧ SqL X.K H1 a xs ∧ ∀ p, H1 p = none → Q (.ref p) (upd H1 p (.lst xs.reverse))) (fun B L ρ S S' H d d' x Q R r e q => by
    unfold oRev at e
    cases e1 : lsR d S with
    | none => rw [e1] at e; cases e
    | some l =>
      rw [e1] at e
      obtain ⟨a, vs, rfl, h1, h2⟩ := lsR_ok (G := pg X) R r e1
      exact ⟨a, vs, rfl, h1, (mkL_ok R h2.reverse e q).2⟩) A gg
end

/-! ### built-in functions -/
def oLen : OpN := fun xs S => match xs with
  | [.tup l] => some (.int l.length, S)
  | [.str x] => bif fit x.length then some (.int x.length, S) else none
  | [x] => match lsR x S with
    | some l => some (.int l.length, S)
    | none => none
  | _ => none
def oAbs : OpN := fun xs S => match xs with
  | [.int i] => some (.int (if i < 0 then -i else i), S)
  | _ => none
def oMax2 : OpN := fun xs S => match xs with
  | [.int i, .int j] => some (.int (if j > i then j else i), S)
  | _ => none
def oMax : OpN := fun xs S => match xs with
  | [.tup l] => match intsD l with
    | some (n :: ns) => some (.int (ns.foldl max n), S)
    | _ => none
  | [x] => match lsR x S with
    | some l => match intsD l with
      | some (n :: ns) => some (.int (ns.foldl max n), S)
      | _ => none
    | none => none
  | _ => none
def oMin2 : OpN := fun xs S => match xs with
  | [.int i, .int j] => some (.int (if j < i then j else i), S)
  | _ => none
def oMin : OpN := fun xs S => match xs with
  | [.tup l] => match intsD l with
    | some (n :: ns) => some (.int (ns.foldl min n), S)
    | _ => none
  | [x] => match lsR x S with
    | some l => match intsD l with
      | some (n :: ns) => some (.int (ns.foldl min n), S)
      | _ => none
    | none => none
  | _ => none
def oSum : OpN := fun xs S => match xs with
  | [.tup l] => match intsD l with
    | some ns => some (.int ns.sum, S)
    | _ => none
  | [x] => match lsR x S with
    | some l => match intsD l with
      | some ns => some (.int ns.sum, S)
      | _ => none
    | none => none
  | _ => none
def oAll : OpN := fun xs S => match xs with
  | [x] => match lsR x S with
    | some l => match blsD l with
      | some bs => some (.bl (bs.all id), S)
      | none => none
    | none => none
  | _ => none
def oAny : OpN := fun xs S => match xs with
  | [x] => match lsR x S with
    | some l => match blsD l with
      | some bs => some (.bl (bs.any id), S)
      | none => none
    | none => none
  | _ => none
def oList (m : Bool) : OpN := fun xs S => match xs with
  | [.tup l] => mkL m l S
  | [x] => match lsR x S with
    | some l => mkL m l S
    | none => none
  | _ => none
def oTuple : OpN := fun xs S => match xs with
  | [.tup l] => some (.tup l, S)
  | [x] => match lsR x S with
    | some l => some (.tup l, S)
    | none => none
  | _ => none
/-- a value's type among the built-in ones -/
def tyD (S : Sto) : D → Option String
  | .non => some "NoneType"
  | .bl _ => some "bool"
  | .int _ => some "int"
  | .str _ => some "str"
  | .tup _ => some "tuple"
  | .lst _ => some "list"
  | .loc n => match S[n]? with
    | some (.lst _) => some "list"
    | some (.dki false _) => some "dict"
    | _ => none
  | _ => none
def isaB (a b : String) : Option Bool := match a, b with
  | "bool", "int" => some true
  | "bool", "bool" => some true
  | "int", "int" => some true
  | "str", "str" => some true
  | "tuple", "tuple" => some true
  | "list", "list" => some true
  | "NoneType", "int" => some false | "NoneType", "bool" => some false | "NoneType", "tuple" => some false | "NoneType", "list" => some false | "NoneType", "str" => some false
  | "bool", "tuple" => some false | "bool", "list" => some false | "bool", "str" => some false
  | "int", "bool" => some false | "int", "tuple" => some false | "int", "list" => some false | "int", "str" => some false
  | "str", "int" => some false | "str", "bool" => some false | "str", "tuple" => some false | "str", "list" => some false
  | "tuple", "int" => some false | "tuple", "bool" => some false | "tuple", "list" => some false | "tuple", "str" => some false
  | "list", "int" => some false | "list", "bool" => some false | "list", "tuple" => some false | "list", "str" => some false
  | "dict", "int" => some false | "dict", "bool" => some false | "dict", "tuple" => some false | "dict", "list" => some false | "dict", "str" => some false
  | _, _ => none
def isaAny (a : String) : List D → Option Bool
  | [.glob (.ty n), .glob (.ty m)] => match isaB a n, isaB a m with
    | some b, some c => some (b || c)
    | _, _ => none
  | _ => none
def oIsa : OpN := fun xs S => match xs with
  | [x, .glob (.ty n)] => match tyD S x with
    | some t => match isaB t n with
      | some b => some (.bl b, S)
      | none => none
    | none => none
  | [x, .tup cs] => match tyD S x with
    | some t => match isaAny t cs with
      | some b => some (.bl b, S)
      | none => none
    | none => none
  | _ => none
theorem isaB_ok {a b : String} {r : Bool} (h : isaB a b = some r) : kitB a b = some r := by
  unfold isaB at h
  split at h <;> first | (cases h; decide +kernel) | cases h
section
variable {X : Cx} {K : PySem.W.Frag} {B L ρ : List Addr} {S S' : Sto} {H : Hp}
theorem rvs1 {d : D} {xs : List V} (r : RVs K B ρ H [d] xs) : ∃ x, xs = [x] ∧ RV K B ρ H d x := by
  cases r with
  | cons r t => cases t; exact ⟨_, rfl, r⟩
theorem rvs2 {d d' : D} {xs : List V} (r : RVs K B ρ H [d, d'] xs) : ∃ x y, xs = [x, y] ∧ RV K B ρ H d x ∧ RV K B ρ H d' y := by
  cases r with
  | cons r t =>
    cases t with
    | cons r' t => cases t; exact ⟨_, _, rfl, r, r'⟩
theorem lsR_seq {G : Pg} {d : D} {x : V} {l : List D} (R : RH G B L ρ H S) (r : RV G.K B ρ H d x) (e : lsR d S = some l) : ∃ a vs, x = .ref a ∧ SqL G.K H a vs ∧ RVs G.K B ρ H l vs := lsR_ok R r e
theorem ok_len : OkN (pg X) (fun xs H Q => ∃ x n, xs = [x] ∧ LenV X.K x H n ∧ Q (.int n) H) oLen := by
  intro B L ρ S S' H ds d' xs Q R rs e q
  match ds, e with
  | [d], e =>
    obtain ⟨x, rfl, r⟩ := rvs1 rs
    have gen : (match lsR d S with
      | some l => some (D.int l.length, S)
      | none => none) = some (d', S') → ∃ x' n, [x] = [x'] ∧ LenV X.K x' H n ∧ Q (.int n) H := by
      intro e
      cases e1 : lsR d S with
      | none => rw [e1] at e; cases e
      | some l =>
        rw [e1] at e; cases e
        obtain ⟨a, vs, rfl, h1, h2⟩ := lsR_ok (G := pg X) R r e1
        exact ⟨_, vs.length, rfl, .inl ⟨vs, h1, rfl⟩, by rw [← h2.length]; exact here (G := pg X) q R (.int _)⟩
    cases r with
    | @tup a vs ds h1 h2 => cases e; exact ⟨_, vs.length, rfl, .inr ⟨vs, h1.sq, rfl⟩, by rw [← h2.length]; exact here (G := pg X) q R (.int _)⟩
    | str y =>
      unfold oLen at e
      simp only at e
      cases hf : fit y.length with
      | false => rw [hf] at e; cases e
      | true => rw [hf] at e; cases e; exact ⟨_, y.length, rfl, ⟨fit_le hf, rfl⟩, here (G := pg X) q R (.int _)⟩
    | _ => exact gen e
  | d :: _ :: _, e => cases d <;> cases e
theorem ok_abs : OkN (pg X) (fun xs H Q => ∃ i, xs = [.int i] ∧ Q (.int (if i < 0 then -i else i)) H) oAbs := by
  intro B L ρ S S' H ds d' xs Q R rs e q
  match ds, e with
  | [.int i], e =>
    obtain ⟨x, rfl, r⟩ := rvs1 rs
    cases r; cases e
    exact ⟨i, rfl, here (G := pg X) q R (.int _)⟩
theorem ok_all : OkN (pg X) (rAll X.K) oAll := by
  intro B L ρ S S' H ds d' xs Q R rs e q
  match ds, e with
  | [d], e =>
    obtain ⟨x, rfl, r⟩ := rvs1 rs
    unfold oAll at e
    simp only at e
    cases e1 : lsR d S with
    | none => rw [e1] at e; cases e
    | some l =>
      rw [e1] at e
      simp only at e
      cases e2 : blsD l with
      | none => rw [e2] at e; cases e
      | some bs =>
        rw [e2] at e; cases e
        obtain ⟨a, vs, rfl, h1, h2⟩ := lsR_ok (G := pg X) R r e1
        obtain rfl := blsD_ok (G := pg X) h2 e2
        exact ⟨a, bs, rfl, h1, here (G := pg X) q R (.bl _)⟩
theorem ok_any : OkN (pg X) (rAny X.K) oAny := by
  intro B L ρ S S' H ds d' xs Q R rs e q
  match ds, e with
  | [d], e =>
    obtain ⟨x, rfl, r⟩ := rvs1 rs
    unfold oAny at e
    simp only at e
    cases e1 : lsR d S with
    | none => rw [e1] at e; cases e
    | some l =>
      rw [e1] at e
      simp only at e
      cases e2 : blsD l with
      | none => rw [e2] at e; cases e
      | some bs =>
        rw [e2] at e; cases e
        obtain ⟨a, vs, rfl, h1, h2⟩ := lsR_ok (G := pg X) R r e1
        obtain rfl := blsD_ok (G := pg X) h2 e2
        exact ⟨a, bs, rfl, h1, here (G := pg X) q R (.bl _)⟩
theorem ok_list {m : Bool} : OkN (pg X) (fun xs H Q => ∃ p ys, xs = [.ref p] ∧ (SqL X.K H p ys ∨ SqT X.K H p ys) ∧ ∀ l, H l = none → Q (.ref l) (upd H l (.lst ys))) (oList m) := by
  intro B L ρ S S' H ds d' xs Q R rs e q
  match ds, e with
  | [d], e =>
    obtain ⟨x, rfl, r⟩ := rvs1 rs
    have gen : (match lsR d S with
      | some l => mkL m l S
      | none => none) = some (d', S') → ∃ p ys, [x] = [.ref p] ∧ (SqL X.K H p ys ∨ SqT X.K H p ys) ∧ ∀ l, H l = none → Q (.ref l) (upd H l (.lst ys)) := by
      intro e
      cases e1 : lsR d S with
      | none => rw [e1] at e; cases e
      | some l =>
        rw [e1] at e
        obtain ⟨a, vs, rfl, h1, h2⟩ := lsR_ok (G := pg X) R r e1
        exact ⟨a, vs, rfl, .inl h1, (mkL_ok R h2 e q).2⟩
    cases r with
    | @tup a vs ds h1 h2 => exact ⟨a, vs, rfl, .inr h1.sq, (mkL_ok R h2 e q).2⟩
    | _ => exact gen e
  | d :: _ :: _, e => cases d <;> cases e
theorem ok_tuple : OkN (pg X) (fun xs H Q => ∃ p ys, xs = [.ref p] ∧ ((SqL X.K H p ys ∧ ∀ l, H l = none → Q (.ref l) (upd H l (.tup ys))) ∨ (SqT X.K H p ys ∧ Q (.ref p) H))) oTuple := by
  intro B L ρ S S' H ds d' xs Q R rs e q
  match ds, e with
  | [d], e =>
    obtain ⟨x, rfl, r⟩ := rvs1 rs
    have gen : (match lsR d S with
      | some l => some (D.tup l, S)
      | none => none) = some (d', S') → ∃ p ys, [x] = [.ref p] ∧ ((SqL X.K H p ys ∧ ∀ l, H l = none → Q (.ref l) (upd H l (.tup ys))) ∨ (SqT X.K H p ys ∧ Q (.ref p) H)) := by
      intro e
      cases e1 : lsR d S with
      | none => rw [e1] at e; cases e
      | some l =>
        rw [e1] at e; cases e
        obtain ⟨a, vs, rfl, h1, h2⟩ := lsR_ok (G := pg X) R r e1
        exact ⟨a, vs, rfl, .inl ⟨h1, mkT_ok R h2 q⟩⟩
    cases r with
    | @tup a vs ds h1 h2 => cases e; exact ⟨a, vs, rfl, .inr ⟨h1.sq, here (G := pg X) q R (.tup h1 h2)⟩⟩
    | _ => exact gen e
  | d :: _ :: _, e => cases d <;> cases e
theorem tyD_ok {G : Pg} {d : D} {x : V} {t : String} (R : RH G B L ρ H S) (r : RV G.K B ρ H d x) (e : tyD S d = some t) : TyX G.K H x (.type t) := by
  cases r with
  | non => cases e; exact .base .non
  | bl b => cases e; exact .base (.bl b)
  | int i => cases e; exact .base (.int i)
  | str y => cases e; exact .base (.str y)
  | tup h1 h2 => cases e; exact .base (.tup h1.2.2)
  | lst h1 h2 h3 h4 => cases e; exact .base (.lst h3)
  | @loc n a h =>
    unfold tyD at e
    simp only at e
    cases q : S[n]? with
    | none => rw [q] at e; cases e
    | some o =>
      rw [q] at e
      cases o with
      | lst ds => cases e; obtain ⟨vs, h1, h2⟩ := R.ob n a _ h q; exact .base (.lst h1)
      | dki lk kvs =>
        cases lk with
        | true => cases e
        | false => cases e; obtain ⟨ents, h1, h2⟩ := R.ob n a _ h q; exact .base (.dK h1)
      | _ => cases e
  | _ => cases e
theorem isaAny_ok {t : String} {cs : List D} {vs : List V} {b : Bool} (r : RVs K B ρ H cs vs) (e : isaAny t cs = some b) : ∃ us, Paired ClsV vs us ∧ PySem.W.kitAny K (.type t) us = some b := by
  match cs, e with
  | [.glob (.ty n), .glob (.ty m)], e =>
    obtain ⟨x, y, rfl, r1, r2⟩ := rvs2 r
    cases r1; cases r2
    unfold isaAny at e
    simp only at e
    cases e1 : isaB t n with
    | none => rw [e1] at e; cases e
    | some b' =>
      cases e2 : isaB t m with
      | none => rw [e1, e2] at e; cases e
      | some c =>
        rw [e1, e2] at e; cases e
        refine ⟨[.type n, .type m], .cons (.ty n) (.cons (.ty m) .nil), ?_⟩
        refine kitAny_cons (kit_ty (isaB_ok e1)) (fun z => ?_) (fun z => by rw [z]; rfl)
        subst z
        refine kitAny_cons (kit_ty (isaB_ok e2)) (fun z => ?_) (fun z => by rw [z]; rfl)
        subst z; rfl
abbrev rIsaR (K : PySem.W.Frag) : List V → Hp → VK → Prop := fun xs H Q => rIsi K xs H Q ∨ rIsiT K xs H Q
theorem callr_isa : CallR X (.builtin "isinstance") (rIsaR X.K) := call_isi.or call_isiT
theorem ok_isa : OkN (pg X) (rIsaR X.K) oIsa := by
  intro B L ρ S S' H ds d' xs Q R rs e q
  match ds, e with
  | [d, .glob (.ty n)], e =>
    obtain ⟨x, y, rfl, r1, r2⟩ := rvs2 rs
    cases r2
    unfold oIsa at e
    simp only at e
    cases e1 : tyD S d with
    | none => rw [e1] at e; cases e
    | some t =>
      rw [e1] at e
      simp only at e
      cases e2 : isaB t n with
      | none => rw [e2] at e; cases e
      | some b =>
        rw [e2] at e; cases e
        exact .inl ⟨x, _, .type t, .type n, b, rfl, .ty n, tyD_ok (G := pg X) R r1 e1, kit_ty (isaB_ok e2), here (G := pg X) q R (.bl _)⟩
  | [d, .tup cs], e =>
    obtain ⟨x, y, rfl, r1, r2⟩ := rvs2 rs
    cases r2 with
    | @tup a vs _ h1 h2 =>
    unfold oIsa at e
    simp only at e
    cases e1 : tyD S d with
    | none => rw [e1] at e; cases e
    | some t =>
      rw [e1] at e
      simp only at e
      cases e2 : isaAny t cs with
      | none => rw [e2] at e; cases e
      | some b =>
        rw [e2] at e; cases e
        obtain ⟨us, k1, k2⟩ := isaAny_ok h2 e2
        exact .inr ⟨x, a, vs, .type t, us, b, rfl, h1.2.2, k1, tyD_ok (G := pg X) R r1 e1, k2, here (G := pg X) q R (.bl _)⟩
/-! ### max, min, sum: two ints; a list, a tuple of ints -/
theorem foldl_max_mem : ∀ (ns : List Int) (n : Int), (ns.foldl max n = n ∨ ns.foldl max n ∈ ns) ∧ n ≤ ns.foldl max n ∧ ∀ y, y ∈ ns → y ≤ ns.foldl max n
  | [], n => ⟨.inl rfl, Int.le_refl _, fun _ h => nomatch h⟩
  | k :: r, n => by
    obtain ⟨h1, h2, h3⟩ := foldl_max_mem r (max n k)
    rw [List.foldl_cons]
    refine ⟨?_, by omega, fun y hy => ?_⟩
    · rcases h1 with h1 | h1
      · rw [h1]
        by_cases z : n ≤ k
        · right; rw [Int.max_eq_right z]; exact List.mem_cons_self
        · left; exact Int.max_eq_left (by omega)
      · exact .inr (List.mem_cons_of_mem _ h1)
    · rcases List.mem_cons.mp hy with rfl | hy
      · omega
      · exact h3 y hy
theorem foldl_min_mem : ∀ (ns : List Int) (n : Int), (ns.foldl min n = n ∨ ns.foldl min n ∈ ns) ∧ ns.foldl min n ≤ n ∧ ∀ y, y ∈ ns → ns.foldl min n ≤ y
  | [], n => ⟨.inl rfl, Int.le_refl _, fun _ h => nomatch h⟩
  | k :: r, n => by
    obtain ⟨h1, h2, h3⟩ := foldl_min_mem r (min n k)
    rw [List.foldl_cons]
    refine ⟨?_, by omega, fun y hy => ?_⟩
    · rcases h1 with h1 | h1
      · rw [h1]
        by_cases z : n ≤ k
        · left; exact Int.min_eq_left z
        · right; rw [Int.min_eq_right (by omega)]; exact List.mem_cons_self
      · exact .inr (List.mem_cons_of_mem _ h1)
    · rcases List.mem_cons.mp hy with rfl | hy
      · omega
      · exact h3 y hy
theorem readsInts {h : Heap} : ∀ {ns : List Int} {us : List Value}, Vals (ns.map V.int) us → ∃ as, ReadsAll h us (ns.map PyData.int) as
  | [], _, .nil => ⟨_, ReadsAll.nil⟩
  | n :: ns, _, .cons r t => by
    obtain ⟨tk, rfl⟩ := r
    obtain ⟨as, q⟩ := readsInts t
    exact ⟨_, ReadsAll.cons (Reads.int n tk) q⟩
theorem alikeInts (ns : List Int) : PySem.W.AlikeAll (ns.map PyData.int) := by
  refine ⟨fun x hx y hy => ?_, fun x hx => ?_⟩
  · obtain ⟨i, _, rfl⟩ := List.mem_map.mp hx
    obtain ⟨j, _, rfl⟩ := List.mem_map.mp hy
    rfl
  · obtain ⟨i, _, rfl⟩ := List.mem_map.mp hx
    exact fun z => nomatch z
theorem depthInts : ∀ ns : List Int, PyData.depthAll (ns.map PyData.int) = 0
  | [] => rfl
  | n :: ns => by rw [List.map_cons, PyData.depthAll, depthInts ns]; rfl
def rTupF (K : PySem.W.Frag) (f : Int → List Int → Int) : List V → Hp → VK → Prop := fun xs H Q => ∃ (a : Addr) (n : Int) (ns : List Int), xs = [.ref a] ∧ SqT K H a ((n :: ns).map V.int) ∧ Q (.int (f n ns)) H
theorem cr_maxT {k : Nat} (hc : X.calm = true) (hr : Room k X.A) : CallR X (.builtin "max") (rTupF X.K fun n ns => ns.foldl max n) := by
  intro pins s σ H vs us Q I r h
  obtain ⟨a, n, ns, rfl, hs, q⟩ := h
  obtain ⟨its, rv, ht, _⟩ := I.tuple hs
  rw [Vals.ref1 r]
  obtain ⟨as, hra⟩ := readsInts (h := s.heap) rv
  have hu := hr.units
  refine PySem.W.max_tuple_data (I.ok.hd hc) (show s.heap.IsTuple a its.toArray from ht) (x := .int n) (xs := ns.map .int) (as := as) (by simpa using hra) (by simpa using alikeInts (n :: ns)) (by rw [show (PyData.int n :: ns.map PyData.int) = (n :: ns).map PyData.int from rfl, depthInts]; omega) fun i v h' tk bs hv hread hk => ?_
  rw [PySem.W.maxD_ints] at hread
  cases hread
  exact ⟨.int _, H, I.kept hk, ⟨_, rfl⟩, q⟩
theorem cr_minT {k : Nat} (hc : X.calm = true) (hr : Room k X.A) : CallR X (.builtin "min") (rTupF X.K fun n ns => ns.foldl min n) := by
  intro pins s σ H vs us Q I r h
  obtain ⟨a, n, ns, rfl, hs, q⟩ := h
  obtain ⟨its, rv, ht, _⟩ := I.tuple hs
  rw [Vals.ref1 r]
  obtain ⟨as, hra⟩ := readsInts (h := s.heap) rv
  have hu := hr.units
  refine PySem.W.min_tuple_data (I.ok.hd hc) (show s.heap.IsTuple a its.toArray from ht) (x := .int n) (xs := ns.map .int) (as := as) (by simpa using hra) (by simpa using alikeInts (n :: ns)) (by rw [show (PyData.int n :: ns.map PyData.int) = (n :: ns).map PyData.int from rfl, depthInts]; omega) fun i v h' tk bs hv hread hk => ?_
  rw [PySem.W.minD_ints] at hread
  cases hread
  exact ⟨.int _, H, I.kept hk, ⟨_, rfl⟩, q⟩
def rSumT (K : PySem.W.Frag) : List V → Hp → VK → Prop := fun xs H Q => ∃ (a : Addr) (ns : List Int), xs = [.ref a] ∧ SqT K H a (ns.map V.int) ∧ Q (.int ns.sum) H
theorem cr_sumT (hc : X.calm = true) : CallR X (.builtin "sum") (rSumT X.K) := by
  intro pins s σ H vs us Q I r h
  obtain ⟨a, ns, rfl, hs, q⟩ := h
  obtain ⟨its, rv, ht, _⟩ := I.tuple hs
  rw [Vals.ref1 r]
  have hi := rv.ints
  obtain ⟨xs, hx⟩ := hi.allInts.items
  have hl : s.heap.IsTuple a its.toArray := ht
  have hn : numsOf its.toArray.toList = ns := by rw [show its.toArray.toList = its from rfl, hi.numsOf]
  rw [hx] at hl hn
  rw [nums_intItems] at hn
  refine PySem.W.ktm_sumG (I.ok.hd hc) hl fun h' tk t' hk => ?_
  rw [preSum_eq, List.take_of_length_le (by simp), hn]
  exact ⟨.int _, H, I.kept hk, ⟨_, rfl⟩, q⟩
abbrev rMaxR (K : PySem.W.Frag) : List V → Hp → VK → Prop := fun xs H Q => rMax K xs H Q ∨ rTupF K (fun n ns => ns.foldl max n) xs H Q
abbrev rMinR (K : PySem.W.Frag) : List V → Hp → VK → Prop := fun xs H Q => rMin K xs H Q ∨ rTupF K (fun n ns => ns.foldl min n) xs H Q
abbrev rSumR (K : PySem.W.Frag) : List V → Hp → VK → Prop := fun xs H Q => rSum K xs H Q ∨ rSumT K xs H Q
theorem callr_max {k : Nat} (hc : X.calm = true) (hr : Room k X.A) : CallR X (.builtin "max") (rMaxR X.K) := (cr_max hc).or (cr_maxT hc hr)
theorem callr_min {k : Nat} (hc : X.calm = true) (hr : Room k X.A) : CallR X (.builtin "min") (rMinR X.K) := (cr_min hc).or (cr_minT hc hr)
theorem callr_sum (hc : X.calm = true) : CallR X (.builtin "sum") (rSumR X.K) := (cr_sum hc).or (cr_sumT hc)
theorem ok_max : OkN (pg X) (rMaxR X.K) oMax := by
  intro B L ρ S S' H ds d' xs Q R rs e q
  match ds, e with
  | [d], e =>
    obtain ⟨x, rfl, r⟩ := rvs1 rs
    have gen : (match lsR d S with
      | some l => match intsD l with
        | some (n :: ns) => some (D.int (ns.foldl max n), S)
        | _ => none
      | none => none) = some (d', S') → rMaxR X.K [x] H Q := by
      intro e
      cases e1 : lsR d S with
      | none => rw [e1] at e; cases e
      | some l =>
        rw [e1] at e
        simp only at e
        cases e2 : intsD l with
        | none => rw [e2] at e; cases e
        | some ns =>
          rw [e2] at e
          cases ns with
          | nil => cases e
          | cons n ns =>
            cases e
            obtain ⟨a, vs, rfl, h1, h2⟩ := lsR_ok (G := pg X) R r e1
            obtain rfl := intsD_ok (G := pg X) h2 e2
            refine .inl ⟨a, n :: ns, rfl, h1, by simp, fun m hm hle => ?_⟩
            obtain ⟨z1, z2, z3⟩ := foldl_max_mem ns n
            have : m = ns.foldl max n := by
              have a1 : m ≤ ns.foldl max n := by
                rcases List.mem_cons.mp hm with rfl | hm
                · exact z2
                · exact z3 m hm
              have a2 : ns.foldl max n ≤ m := by
                rcases z1 with z1 | z1
                · rw [z1]; exact hle n List.mem_cons_self
                · exact hle _ (List.mem_cons_of_mem _ z1)
              omega
            rw [this]
            exact here (G := pg X) q R (.int _)
    cases r with
    | @tup a vs ds h1 h2 =>
      unfold oMax at e
      simp only at e
      cases e2 : intsD ds with
      | none => rw [e2] at e; cases e
      | some ns =>
        rw [e2] at e
        cases ns with
        | nil => cases e
        | cons n ns =>
          cases e
          obtain rfl := intsD_ok (G := pg X) h2 e2
          exact .inr ⟨a, n, ns, rfl, h1.sq, here (G := pg X) q R (.int _)⟩
    | _ => exact gen e
  | d :: _ :: _, e => cases d <;> cases e
theorem ok_min : OkN (pg X) (rMinR X.K) oMin := by
  intro B L ρ S S' H ds d' xs Q R rs e q
  match ds, e with
  | [d], e =>
    obtain ⟨x, rfl, r⟩ := rvs1 rs
    have gen : (match lsR d S with
      | some l => match intsD l with
        | some (n :: ns) => some (D.int (ns.foldl min n), S)
        | _ => none
      | none => none) = some (d', S') → rMinR X.K [x] H Q := by
      intro e
      cases e1 : lsR d S with
      | none => rw [e1] at e; cases e
      | some l =>
        rw [e1] at e
        simp only at e
        cases e2 : intsD l with
        | none => rw [e2] at e; cases e
        | some ns =>
          rw [e2] at e
          cases ns with
          | nil => cases e
          | cons n ns =>
            cases e
            obtain ⟨a, vs, rfl, h1, h2⟩ := lsR_ok (G := pg X) R r e1
            obtain rfl := intsD_ok (G := pg X) h2 e2
            refine .inl ⟨a, n :: ns, rfl, h1, by simp, fun m hm hle => ?_⟩
            obtain ⟨z1, z2, z3⟩ := foldl_min_mem ns n
            have : m = ns.foldl min n := by
              have a1 : ns.foldl min n ≤ m := by
                rcases List.mem_cons.mp hm with rfl | hm
                · exact z2
                · exact z3 m hm
              have a2 : m ≤ ns.foldl min n := by
                rcases z1 with z1 | z1
                · rw [z1]; exact hle n List.mem_cons_self
                · exact hle _ (List.mem_cons_of_mem _ z1)
              omega
            rw [this]
            exact here (G := pg X) q R (.int _)
    cases r with
    | @tup a vs ds h1 h2 =>
      unfold oMin at e
      simp only at e
      cases e2 : intsD ds with
      | none => rw [e2] at e; cases e
      | some ns =>
        rw [e2] at e
        cases ns with
        | nil => cases e
        | cons n ns =>
          cases e
          obtain rfl := intsD_ok (G := pg X) h2 e2
          exact .inr ⟨a, n, ns, rfl, h1.sq, here (G := pg X) q R (.int _)⟩
    | _ => exact gen e
  | d :: _ :: _, e => cases d <;> cases e
theorem ok_max2 : OkN (pg X) (fun xs H Q => ∃ i j, xs = [.int i, .int j] ∧ Q (.int (if j > i then j else i)) H) oMax2 := by
  intro B L ρ S S' H ds d' xs Q R rs e q
  match ds, e with
  | [.int i, .int j], e =>
    obtain ⟨x, y, rfl, r1, r2⟩ := rvs2 rs
    cases r1; cases r2; cases e
    exact ⟨i, j, rfl, here (G := pg X) q R (.int _)⟩
theorem ok_min2 : OkN (pg X) (fun xs H Q => ∃ i j, xs = [.int i, .int j] ∧ Q (.int (if j < i then j else i)) H) oMin2 := by
  intro B L ρ S S' H ds d' xs Q R rs e q
  match ds, e with
  | [.int i, .int j], e =>
    obtain ⟨x, y, rfl, r1, r2⟩ := rvs2 rs
    cases r1; cases r2; cases e
    exact ⟨i, j, rfl, here (G := pg X) q R (.int _)⟩
theorem ok_sum : OkN (pg X) (rSumR X.K) oSum := by
  intro B L ρ S S' H ds d' xs Q R rs e q
  match ds, e with
  | [d], e =>
    obtain ⟨x, rfl, r⟩ := rvs1 rs
    have gen : (match lsR d S with
      | some l => match intsD l with
        | some ns => some (D.int ns.sum, S)
        | _ => none
      | none => none) = some (d', S') → rSumR X.K [x] H Q := by
      intro e
      cases e1 : lsR d S with
      | none => rw [e1] at e; cases e
      | some l =>
        rw [e1] at e
        simp only at e
        cases e2 : intsD l with
        | none => rw [e2] at e; cases e
        | some ns =>
          rw [e2] at e; cases e
          obtain ⟨a, vs, rfl, h1, h2⟩ := lsR_ok (G := pg X) R r e1
          obtain rfl := intsD_ok (G := pg X) h2 e2
          exact .inl ⟨a, ns, rfl, h1, here (G := pg X) q R (.int _)⟩
    cases r with
    | @tup a vs ds h1 h2 =>
      unfold oSum at e
      simp only at e
      cases e2 : intsD ds with
      | none => rw [e2] at e; cases e
      | some ns =>
        rw [e2] at e; cases e
        obtain rfl := intsD_ok (G := pg X) h2 e2
        exact .inr ⟨a, ns, rfl, h1.sq, here (G := pg X) q R (.int _)⟩
    | _ => exact gen e
  | d :: _ :: _, e => cases d <;> cases e
end

/-! ### displays -/
def fTup (fs : FA) : FE := fun env S => (fs env S).bind fun xs S1 => bif fit xs.length then .ok (.tup xs) S1 else .bad
def fLst (m : Bool) (fs : FA) : FE := fun env S => (fs env S).bind fun xs S1 => outO (mkL m xs S1)
section
variable {X : Cx} {w : Wx} {es : List Expr} {fs : FA} {k : Nat} {pos : Pos}
theorem se_tup (h : SA X w es fs) : SE X w (.Tuple es k pos) (fTup fs) := PE.imp (pe_tup h) fun σ H Q ⟨B, L, ρ, S, env, A, gg⟩ =>
  tA_mono (tA_bind (rel := rD (pg X)) A gg) fun x H1 ⟨B, L, ρ, S, d, A, r, g⟩ => by
    cases hf : fit d.length with
    | false => rw [hf] at g; exact g.elim
    | true =>
      rw [hf] at g
      exact ⟨by rw [← r.length]; exact fit_le hf, mkT_ok A.rh r g⟩
theorem se_lst {m : Bool} (h : SA X w es fs) : SE X w (.List es pos) (fLst m fs) := PE.imp (pe_lst h) fun σ H Q ⟨B, L, ρ, S, env, A, gg⟩ =>
  tA_mono (tA_bind (rel := rD (pg X)) A gg) fun x H1 ⟨B, L, ρ, S, d, A, r, g⟩ => by
    obtain ⟨d', S', e, q⟩ := g.outO
    exact mkL_ok A.rh r e q
end
end Sf
end

section
set_option Elab.async false
set_option maxRecDepth 100000
set_option linter.all false
/-! Sf5: statements, loops. -/
namespace Sf
open PySem PySem.Spec PyProof.Rows L2

inductive SR where
  | nx (env : En) (S : Sto)
  | bk (env : En) (S : Sto)
  | ct (env : En) (S : Sto)
  | rt (d : D) (S : Sto)
  | xc (c : Nat) (S : Sto)
  | bad
abbrev FS := En → Sto → SR
def Out.bindS {α : Type} (r : Out α) (k : α → Sto → SR) : SR := match r with
  | .ok a S => k a S
  | .exc c S => .xc c S
  | .bad => .bad
def SR.bindN (r : SR) (k : En → Sto → SR) : SR := match r with
  | .nx env S => k env S
  | r => r
def GS (G : Pg) (W : WX) (xm : XM) (B L ρ : List Addr) (H : Hp) (r : SR) (D : Ends) : Prop :=
  match r with
  | .nx env S' => ∀ σ' ρ' H', Post L ρ H ρ' H' → RH G B L ρ' H' S' → RE G.K B ρ' H' env σ' → D.nx σ' H'
  | .bk env S' => ∀ σ' ρ' H', Post L ρ H ρ' H' → RH G B L ρ' H' S' → RE G.K B ρ' H' env σ' → D.bk σ' H'
  | .ct env S' => ∀ σ' ρ' H', Post L ρ H ρ' H' → RH G B L ρ' H' S' → RE G.K B ρ' H' env σ' → D.ct σ' H'
  | .rt d S' => ∀ v ρ' H', Post L ρ H ρ' H' → RH G B L ρ' H' S' → RV G.K B ρ' H' d v → D.rt v H'
  | .xc c S' => ∀ σ' ρ' H', Post L ρ H ρ' H' → RH G B L ρ' H' S' → W (xm c) none σ' H'
  | .bad => False
def tS (G : Pg) (W : WX) (xm : XM) (f : FS) : TS := fun D σ H => ∃ B L ρ S env, At G B L ρ S env σ H ∧ GS G W xm B L ρ H (f env S) D
abbrev SS (X : Cx) (w : Wx) (st : Stmt) (f : FS) : Prop := PS X st (tS (pg X) w.W w.xm f)
abbrev SSs (X : Cx) (w : Wx) (sts : List Stmt) (f : FS) : Prop := PSs X sts (tS (pg X) w.W w.xm f)
section
variable {G : Pg} {W : WX} {xm : XM} {B L ρ ρ' : List Addr} {H H' : Hp} {σ : L2.St} {r : SR} {D D' : Ends} {S : Sto} {env : En}
theorem GS.step (g : GS G W xm B L ρ H r D) (p : Post L ρ H ρ' H') : GS G W xm B L ρ' H' r D := by
  cases r with
  | nx e S' => exact fun v ρ2 H2 q R x => g v ρ2 H2 (p.trans q) R x
  | bk e S' => exact fun v ρ2 H2 q R x => g v ρ2 H2 (p.trans q) R x
  | ct e S' => exact fun v ρ2 H2 q R x => g v ρ2 H2 (p.trans q) R x
  | rt e S' => exact fun v ρ2 H2 q R x => g v ρ2 H2 (p.trans q) R x
  | xc c S' => exact fun v ρ2 H2 q R => g v ρ2 H2 (p.trans q) R
  | bad => exact g
theorem GS.nx0 {env : En} (g : GS G W xm B L ρ H (.nx env S) D) (R : RH G B L ρ H S) (re : RE G.K B ρ H env σ) : D.nx σ H := g σ ρ H Post.refl R re
theorem tE_bindS {f : FE} {k : Sf.D → Sto → SR} (A : At G B L ρ S env σ H) (g : GS G W xm B L ρ H ((f env S).bindS k) D) :
    tE G W xm f σ H fun x H1 => ∃ B L ρ S d, At G B L ρ S env σ H1 ∧ RV G.K B ρ H1 d x ∧ GS G W xm B L ρ H1 (k d S) D := by
  refine ⟨B, L, ρ, S, env, A, ?_⟩
  revert g
  cases f env S with
  | ok d S' => exact fun g v ρ' H' p R r => ⟨B, L, ρ', S', d, A.step p R, r, GS.step g p⟩
  | exc c S' => exact fun g => g σ
  | bad => exact fun g => g
theorem tT_bindS {f : FT} {k : Bool → Sto → SR} (A : At G B L ρ S env σ H) (g : GS G W xm B L ρ H ((f env S).bindS k) D) :
    tT G W xm f σ H fun x H1 => ∃ B L ρ S, At G B L ρ S env σ H1 ∧ GS G W xm B L ρ H1 (k x S) D := by
  refine ⟨B, L, ρ, S, env, A, ?_⟩
  revert g
  cases f env S with
  | ok d S' => exact fun g v ρ' H' p R r => ⟨B, L, ρ', S', A.step p R, by cases r; exact GS.step g p⟩
  | exc c S' => exact fun g => g σ
  | bad => exact fun g => g
theorem tE_bindS2 {f g : FE} {k : Sf.D → Sf.D → Sto → SR} (A : At G B L ρ S env σ H) (gg : GS G W xm B L ρ H ((f env S).bindS fun x S1 => (g env S1).bindS fun y S2 => k x y S2) D) :
    tE G W xm f σ H fun x H1 => tE G W xm g σ H1 fun y H2 => ∃ B L ρ S d d', At G B L ρ S env σ H2 ∧ RV G.K B ρ H2 d x ∧ RV G.K B ρ H2 d' y ∧ GS G W xm B L ρ H2 (k d d' S) D := by
  refine ⟨B, L, ρ, S, env, A, ?_⟩
  revert gg
  cases f env S with
  | ok d S' =>
    intro gg v ρ' H' p R r
    have g' := GS.step gg p
    refine ⟨B, L, ρ', S', env, A.step p R, ?_⟩
    revert g'
    show GS G W xm B L ρ' H' ((g env S').bindS fun y S2 => k d y S2) D → _
    cases g env S' with
    | ok d' S2 => exact fun g' v2 ρ2 H2 p2 R2 r2 => ⟨B, L, ρ2, S2, d, d', (A.step p R).step p2 R2, r.mono p2, r2, GS.step g' p2⟩
    | exc c S' => exact fun g => g σ
    | bad => exact fun g => g
  | exc c S' => exact fun g => g σ
  | bad => exact fun g => g
theorem tE_bindS3 {f g h : FE} {k : Sf.D → Sf.D → Sf.D → Sto → SR} (A : At G B L ρ S env σ H) (gg : GS G W xm B L ρ H ((f env S).bindS fun x S1 => (g env S1).bindS fun y S2 => (h env S2).bindS fun z S3 => k x y z S3) D) :
    tE G W xm f σ H fun x H1 => tE G W xm g σ H1 fun y H2 => tE G W xm h σ H2 fun z H3 => ∃ B L ρ S d d' d'', At G B L ρ S env σ H3 ∧ RV G.K B ρ H3 d x ∧ RV G.K B ρ H3 d' y ∧ RV G.K B ρ H3 d'' z ∧ GS G W xm B L ρ H3 (k d d' d'' S) D := by
  refine ⟨B, L, ρ, S, env, A, ?_⟩
  revert gg
  cases f env S with
  | ok d S' =>
    intro gg v ρ' H' p R r
    have g' := GS.step gg p
    refine ⟨B, L, ρ', S', env, A.step p R, ?_⟩
    revert g'
    show GS G W xm B L ρ' H' ((g env S').bindS fun y S2 => (h env S2).bindS fun z S3 => k d y z S3) D → _
    cases g env S' with
    | ok d' S2 =>
      intro g' v2 ρ2 H2 p2 R2 r2
      have g2 := GS.step g' p2
      refine ⟨B, L, ρ2, S2, env, (A.step p R).step p2 R2, ?_⟩
      revert g2
      show GS G W xm B L ρ2 H2 ((h env S2).bindS fun z S3 => k d d' z S3) D → _
      cases h env S2 with
      | ok d'' S3 => exact fun g2 v3 ρ3 H3 p3 R3 r3 => ⟨B, L, ρ3, S3, d, d', d'', ((A.step p R).step p2 R2).step p3 R3, (r.mono p2).mono p3, r2.mono p3, r3, GS.step g2 p3⟩
      | exc c S' => exact fun g => g σ
      | bad => exact fun g => g
    | exc c S' => exact fun g => g σ
    | bad => exact fun g => g
  | exc c S' => exact fun g => g σ
  | bad => exact fun g => g
end

/-! ### functions of statements -/
def sSkip : FS := fun env S => .nx env S
def sSeq (f g : FS) : FS := fun env S => (f env S).bindN g
def sBreak : FS := fun env S => .bk env S
def sCont : FS := fun env S => .ct env S
def sExpr (f : FE) : FS := fun env S => (f env S).bindS fun _ S1 => .nx env S1
def sRet (f : FE) : FS := fun env S => (f env S).bindS fun x S1 => .rt x S1
def sIf (c : FT) (a b : FS) : FS := fun env S => (c env S).bindS fun x S1 => bif x then a env S1 else b env S1
def sAsg (i : Nat) (f : FE) : FS := fun env S => (f env S).bindS fun x S1 => .nx (env.set i x) S1
def setAllE : En → List Nat → List D → En
  | env, i :: is, d :: ds => setAllE (env.set i d) is ds
  | env, _, _ => env
def setAllS : L2.St → List Nat → List V → L2.St
  | σ, i :: is, d :: ds => setAllS (σ.set i (some d)) is ds
  | σ, _, _ => σ
def unTup (is : List Nat) (d : D) (env : En) : Option En := match d with
  | .tup l => bif Nat.beq l.length is.length then some (setAllE env is l) else none
  | _ => none
def sAsgT (is : List Nat) (f : FE) : FS := fun env S => (f env S).bindS fun x S1 => match unTup is x env with
  | some env' => .nx env' S1
  | none => .bad
def sAsgP (is : List Nat) (fs : FA) : FS := fun env S => (fs env S).bindS fun xs S1 => .nx (setAllE env is xs) S1
/-- o[i] = v of a list's place -/
def setO (o i v : D) (S : Sto) : Option Sto := match o, i with
  | .loc n, .int k => match S[n]? with
    | some (.lst l) => match ixN l.length k with
      | some j => some (S.set n (.lst (l.set j v)))
      | none => none
    | _ => none
  | _, _ => none
def sAsgIx (fe fo fi : FE) : FS := fun env S => (fe env S).bindS fun x S1 => (fo env S1).bindS fun o S2 => (fi env S2).bindS fun i S3 => match setO o i x S3 with
  | some S4 => .nx env S4
  | none => .bad
def sAug (i : Nat) (g : Op2) (f : FE) : FS := fun env S => (fVar i env S).bindS fun x S1 => (f env S1).bindS fun y S2 => match g x y S2 with
  | some (z, S3) => .nx (env.set i z) S3
  | none => .bad
def sto (env : En) : Option Sto → SR
  | some S => .nx env S
  | none => .bad
def augJ (g : Op2) (env : En) (o i x y : D) (S : Sto) : SR := match g x y S with
  | some (z, S5) => sto env (setO o i z S5)
  | none => .bad
def augK (g : Op2) (fe : FE) (env : En) (o i : D) (S : Sto) : SR := match o, i with
  | .loc n, .int k => match oIx (.loc n) (.int k) S with
    | some (x, S3) => (fe env S3).bindS fun y S4 => augJ g env (.loc n) (.int k) x y S4
    | none => .bad
  | _, _ => .bad
def sAugIx (g : Op2) (fo fi fe : FE) : FS := fun env S => (fo env S).bindS fun o S1 => (fi env S1).bindS fun i S2 => augK g fe env o i S2
def whileL (c : FT) (b : FS) : Nat → FS
  | 0 => fun _ _ => .bad
  | m + 1 => fun env S => (c env S).bindS fun x S1 => bif x then (match b env S1 with
    | .nx env' S' => whileL c b m env' S'
    | .ct env' S' => whileL c b m env' S'
    | .bk env' S' => .nx env' S'
    | r => r) else .nx env S1

section
variable {X : Cx} {w : Wx} {e : Expr} {st : Stmt} {sts rest : List Stmt} {f g : FS} {fe fo fi : FE} {fc : FT} {fs : FA} {pos : Pos}
theorem ss_nil : SSs X w [] sSkip := PSs.imp pss_nil fun D σ H ⟨B, L, ρ, S, env, A, g⟩ => GS.nx0 g A.rh A.re
theorem ss_cons (h1 : SS X w st f) (h2 : SSs X w rest g) : SSs X w (st :: rest) (sSeq f g) := PSs.imp (pss_cons h1 h2) fun D σ H ⟨B, L, ρ, S, env, A, gg⟩ => by
  refine ⟨B, L, ρ, S, env, A, ?_⟩
  revert gg
  unfold sSeq
  cases f env S with
  | nx env' S' => exact fun g σ' ρ' H' p R re => ⟨B, L, ρ', S', env', ⟨R, re⟩, GS.step g p⟩
  | bk e S' => exact fun g => g
  | ct e S' => exact fun g => g
  | rt e S' => exact fun g => g
  | xc c S' => exact fun g => g
  | bad => exact fun g => g
theorem ss_one (h1 : SS X w st f) : SSs X w [st] f := pss_one h1
theorem ss_pass : SS X w (.Pass pos) sSkip := PS.imp ps_pass fun D σ H ⟨B, L, ρ, S, env, A, g⟩ => GS.nx0 g A.rh A.re
theorem ss_break : SS X w (.Break pos) sBreak := PS.imp ps_break fun D σ H ⟨B, L, ρ, S, env, A, g⟩ => g σ ρ H Post.refl A.rh A.re
theorem ss_cont : SS X w (.Continue pos) sCont := PS.imp ps_continue fun D σ H ⟨B, L, ρ, S, env, A, g⟩ => g σ ρ H Post.refl A.rh A.re
theorem ss_expr (he : SE X w e fe) (hs : swapsWith e none pos.line X.env = pure false := by rfl) : SS X w (.Expr e pos) (sExpr fe) := PS.imp (ps_expr he hs) fun D σ H ⟨B, L, ρ, S, env, A, g⟩ =>
  tE_mono (tE_bindS A g) fun x H1 ⟨B, L, ρ, S, d, A, r, g⟩ => GS.nx0 g A.rh A.re
theorem ss_ret (he : SE X w e fe) : SS X w (.Return (some e) pos) (sRet fe) := PS.imp (ps_ret he) fun D σ H ⟨B, L, ρ, S, env, A, g⟩ =>
  tE_mono (tE_bindS A g) fun x H1 ⟨B, L, ρ, S, d, A, r, g⟩ => g x ρ H1 Post.refl A.rh r
theorem ss_retN : SS X w (.Return none pos) (sRet (fCon .non)) := PS.imp ps_retN fun D σ H ⟨B, L, ρ, S, env, A, g⟩ => g .non ρ H Post.refl A.rh .non
theorem ss_if {c : Expr} {a b : List Stmt} (hc : ST X w c fc) (ha : SSs X w a f) (hb : SSs X w b g) : SS X w (.If c a b pos) (sIf fc f g) := PS.imp (ps_if hc ha hb) fun D σ H ⟨B, L, ρ, S, env, A, gg⟩ =>
  tT_mono (tT_bindS A gg) fun x H1 ⟨B, L, ρ, S, A, g⟩ => by
    cases x with
    | true => exact iteT ⟨B, L, ρ, S, env, A, g⟩
    | false => exact iteF ⟨B, L, ρ, S, env, A, g⟩
theorem ss_set {i : Nat} {x : Str} {pos' : Pos} (hN : X.N.Nodup) (hi : X.N[i]? = some x) (hx : Loc X.env.scope x) (he : SE X w e fe) (hs : swapsWith e (some (.Name x pos')) pos.line X.env = pure false := by rfl) (hf : X.fn x = true ∨ X.env.scope.names.lookup x = some .local := by first | exact .inl rfl | exact .inr rfl | assumption) :
    SS X w (.Assign [.Name x pos'] e pos) (sAsg i fe) := PS.imp (ps_set hN hi hx he hs hf) fun D σ H ⟨B, L, ρ, S, env, A, g⟩ =>
  tE_mono (tE_bindS A g) fun x H1 ⟨B, L, ρ, S, d, A, r, g⟩ => GS.nx0 g A.rh (A.re.set i r)
/-- the same, whatever the rule for the assignment is -/
theorem ss_set' {i : Nat} {te : TE} (h : PS X st (tAsg te (gName i))) (he : ∀ σ H Q, tE (pg X) w.W w.xm fe σ H Q → te σ H Q) : SS X w st (sAsg i fe) := PS.imp h fun D σ H ⟨B, L, ρ, S, env, A, g⟩ =>
  he _ _ _ (tE_mono (tE_bindS A g) fun x H1 ⟨B, L, ρ, S, d, A, r, g⟩ => GS.nx0 g A.rh (A.re.set i r))

/-! ### targets -/
/-- t is a target's rule, g its function, is its slots -/
def TgOk (K : PySem.W.Frag) (t : TG) (g : D → En → Option En) (is : List Nat) : Prop := ∀ (B L ρ : List Addr) (H : Hp) (d : D) (v : V) (env env' : En) (σ : L2.St) (Q : L2.St → Hp → Prop), RV K B ρ H d v → RE K B ρ H env σ → g d env = some env' →
    (∀ σ', RE K B ρ H env' σ' → (∀ vs : List Nat, (∀ i ∈ is, i ∈ vs) → wipe σ' vs = wipe σ vs) → Q σ' H) → t v σ H Q
structure SG (X : Cx) (tg : Expr) (t : TG) (g : D → En → Option En) (is : List Nat) : Prop where
  pg : PG X tg t
  ok : TgOk X.K t g is
def tgName (i : Nat) (d : D) (env : En) : Option En := some (env.set i d)
theorem wipe_set {σ : L2.St} {i : Nat} {v : V} : ∀ {vs : List Nat}, i ∈ vs → wipe (σ.set i (some v)) vs = wipe σ vs
  | a :: vs, h => by
    unfold L2.wipe
    by_cases hi : i ∈ vs
    · rw [wipe_set hi]
    · have : i = a := by rcases List.mem_cons.mp h with h | h; exact h; exact absurd h hi
      subst this
      have key : ∀ (σ : L2.St) (vs : List Nat), i ∉ vs → wipe (σ.set i (some v)) vs = (wipe σ vs).set i (some v) := by
        intro σ vs
        induction vs with
        | nil => intro _; rfl
        | cons b vs ih =>
          intro hb
          unfold L2.wipe
          rw [ih (fun z => hb (List.mem_cons_of_mem _ z)), List.set_comm _ _ (by rintro rfl; exact hb List.mem_cons_self)]
      rw [key σ vs hi, List.set_set]
theorem tgk_name {K : PySem.W.Frag} {i : Nat} : TgOk K (gName i) (tgName i) [i] := fun B L ρ H d v env env' σ Q r re e k => by
  cases e
  exact k _ (re.set i r) fun vs hv => wipe_set (hv i (by simp))
theorem sg_name {i : Nat} {x : Str} (h : PG X (.Name x pos) (gName i)) : SG X (.Name x pos) (gName i) (tgName i) [i] := ⟨h, tgk_name⟩
/-- names in a row -/
def TgsOk (t : TGs) (is : List Nat) : Prop := ∀ (vs : List V) (σ : L2.St) (H : Hp) (Q : L2.St → Hp → Prop), vs.length = is.length → Q (setAllS σ is vs) H → t vs σ H Q
structure SGs (X : Cx) (es : List Expr) (t : TGs) (is : List Nat) : Prop where
  pg : PGs X es t
  ok : TgsOk t is
theorem tgsk_nil : TgsOk gNil [] := fun vs σ H Q h k => by
  cases vs with
  | nil => exact ⟨rfl, k⟩
  | cons => simp at h
theorem tgsk_cons {i : Nat} {is : List Nat} {t : TGs} (hr : TgsOk t is) : TgsOk (gCons (gName i) t) (i :: is) := fun vs σ H Q hl k => by
  cases vs with
  | nil => simp at hl
  | cons v vs => exact ⟨v, vs, rfl, hr vs _ H Q (by simpa using hl) k⟩
theorem sgs_nil : SGs X [] gNil [] := ⟨pgs_nil, tgsk_nil⟩
theorem sgs_cons {es : List Expr} {i : Nat} {is : List Nat} {t : TGs} (h : PG X e (gName i)) (hr : SGs X es t is) (hs : (assignEach (e :: es) X.env).map (·.2) = assign e X.env :: (assignEach es X.env).map (·.2) := by rfl) : SGs X (e :: es) (gCons (gName i) t) (i :: is) :=
  ⟨pgs_cons h hr.pg hs, tgsk_cons hr.ok⟩
theorem RE.setAll {K : PySem.W.Frag} {B ρ : List Addr} {H : Hp} {is : List Nat} : ∀ {env : En} {σ : L2.St} {ds : List D} {vs : List V}, RE K B ρ H env σ → RVs K B ρ H ds vs → RE K B ρ H (setAllE env is ds) (setAllS σ is vs) := by
  induction is with
  | nil => intro env σ ds vs h r; cases r <;> exact h
  | cons i is ih =>
    intro env σ ds vs h r
    cases r with
    | nil => exact h
    | cons r t => exact ih (h.set i r) t
theorem wipe_setAll : ∀ {is : List Nat} {σ : L2.St} {xs : List V} {vs : List Nat}, (∀ i ∈ is, i ∈ vs) → wipe (setAllS σ is xs) vs = wipe σ vs
  | [], _, xs, _, _ => by cases xs <;> rfl
  | i :: is, _, [], _, _ => rfl
  | i :: is, σ, x :: xs, vs, h => by
    show wipe (setAllS (σ.set i (some x)) is xs) vs = _
    rw [wipe_setAll fun j hj => h j (List.mem_cons_of_mem _ hj), wipe_set (h i List.mem_cons_self)]
theorem unTup_ok {K : PySem.W.Frag} {B ρ : List Addr} {H : Hp} {is : List Nat} {d : D} {v : V} {env env' : En} {σ : L2.St} (r : RV K B ρ H d v) (re : RE K B ρ H env σ) (e : unTup is d env = some env') :
    ∃ a xs, v = .ref a ∧ SqT K H a xs ∧ xs.length = is.length ∧ RE K B ρ H env' (setAllS σ is xs) := by
  cases r with
  | @tup a vs ds h1 h2 =>
    unfold unTup at e
    simp only at e
    cases hf : Nat.beq ds.length is.length with
    | false => rw [hf] at e; cases e
    | true =>
      rw [hf] at e; cases e
      exact ⟨a, vs, rfl, h1.sq, by rw [← h2.length]; exact Nat.eq_of_beq_eq_true hf, re.setAll h2⟩
  | _ => cases e
theorem tgk_tup {K : PySem.W.Frag} {n : Nat} {t : TGs} {is : List Nat} (h : TgsOk t is) (hl : is.length = n) : TgOk K (gTup K n t) (unTup is) is := fun B L ρ H d v env env' σ Q r re e k => by
  obtain ⟨a, xs, rfl, h1, h2, h3⟩ := unTup_ok r re e
  exact ⟨a, xs, rfl, h1, h2.trans hl, h xs σ H Q h2 (k _ h3 fun vs hv => wipe_setAll hv)⟩
theorem sg_tup {es : List Expr} {k n : Nat} {t : TGs} {is : List Nat} (h : SGs X es t is) (hc : X.calm = true) (hl : is.length = n) (hn : (assignEach es X.env).length = n := by rfl) (hst : (assignEach es X.env).findIdx? (·.1) = none := by rfl) : SG X (.Tuple es k pos) (gTup X.K n t) (unTup is) is :=
  ⟨pg_tup hc h.pg hn hst, tgk_tup h.ok hl⟩
/-- target = e -/
theorem ss_asgT {tg : Expr} {t : TG} {is : List Nat} (hg : SG X tg t (unTup is) is) (he : SE X w e fe) (hs : swapsWithSole [tg] e pos.line X.env = pure false := by rfl) (hw : swappedStores [tg] e X.env = pure none := by rfl)
    (h1 : (assignEach [tg] X.env).map (·.2) = [assign tg X.env] := by rfl) : SS X w (.Assign [tg] e pos) (sAsgT is fe) := PS.imp (ps_asg he hg.pg hs hw h1) fun D σ H ⟨B, L, ρ, S, env, A, g⟩ =>
  tE_mono (tE_bindS A g) fun x H1 ⟨B, L, ρ, S, d, A, r, g⟩ => by
    cases hu : unTup is d env with
    | none => rw [hu] at g; exact g.elim
    | some env' =>
      rw [hu] at g
      exact hg.ok B L ρ H1 d x env env' σ D.nx r A.re hu fun σ' re _ => GS.nx0 g A.rh re
theorem tA_bindS {D : Ends} {G : Pg} {W : WX} {xm : XM} {B L ρ S env σ H} {k : List Sf.D → Sto → SR} (A : At G B L ρ S env σ H) (g : GS G W xm B L ρ H ((fs env S).bindS k) D) :
    tA G W xm fs σ H fun x H1 => ∃ B L ρ S d, At G B L ρ S env σ H1 ∧ RVs G.K B ρ H1 d x ∧ GS G W xm B L ρ H1 (k d S) D := by
  refine ⟨B, L, ρ, S, env, A, ?_⟩
  revert g
  cases fs env S with
  | ok d S' => exact fun g v ρ' H' p R r => ⟨B, L, ρ', S', d, A.step p R, r, GS.step g p⟩
  | exc c S' => exact fun g => g σ
  | bad => exact fun g => g
/-- a, b = x, y; a, b, c = x, y, z with plain local names -/
def len2 : List D → Bool
  | [_, _] => true
  | _ => false
def len3 : List D → Bool
  | [_, _, _] => true
  | _ => false
def sPar2 (i j : Nat) (fs : FA) : FS := fun env S => (fs env S).bindS fun xs S1 => bif len2 xs then .nx (setAllE env [i, j] xs) S1 else .bad
def sPar3 (i j k : Nat) (fs : FA) : FS := fun env S => (fs env S).bindS fun xs S1 => bif len3 xs then .nx (setAllE env [i, j, k] xs) S1 else .bad
theorem ss_par2 {i j : Nat} {ta : TA} (h : PS X st (tPar i j ta)) (ha : ∀ σ H Q, tA (pg X) w.W w.xm fs σ H Q → ta σ H Q) : SS X w st (sPar2 i j fs) := PS.imp h fun D σ H ⟨B, L, ρ, S, env, A, g⟩ =>
  ha _ _ _ (tA_mono (tA_bindS A g) fun x H1 ⟨B, L, ρ, S, d, A, r, g⟩ => by
    match d, r, g with
    | [a, b], .cons r1 (.cons r2 .nil), g => exact ⟨_, _, rfl, GS.nx0 g A.rh ((A.re.set i r1).set j r2)⟩)
theorem ss_par3 {i j k : Nat} {ta : TA} (h : PS X st (tPar3 i j k ta)) (ha : ∀ σ H Q, tA (pg X) w.W w.xm fs σ H Q → ta σ H Q) : SS X w st (sPar3 i j k fs) := PS.imp h fun D σ H ⟨B, L, ρ, S, env, A, g⟩ =>
  ha _ _ _ (tA_mono (tA_bindS A g) fun x H1 ⟨B, L, ρ, S, d, A, r, g⟩ => by
    match d, r, g with
    | [a, b, c], .cons r1 (.cons r2 (.cons r3 .nil)), g => exact ⟨_, _, _, rfl, GS.nx0 g A.rh (((A.re.set i r1).set j r2).set k r3)⟩)

/-! ### o[i] = e, o[i] op= e, x op= e -/
theorem setO_ok {G : Pg} {B L ρ : List Addr} {S S' : Sto} {H : Hp} {o i v : D} {ov iv vv : V} {Q : Hp → Prop} (R : RH G B L ρ H S) (ro : RV G.K B ρ H o ov) (ri : RV G.K B ρ H i iv) (rv : RV G.K B ρ H v vv) (e : setO o i v S = some S')
    (q : ∀ H', Post L ρ H ρ H' → RH G B L ρ H' S' → Q H') : rSetL ov iv vv H Q := by
  cases ro with
  | @loc n a h =>
    cases ri with
    | int k =>
      unfold setO at e
      simp only at e
      cases q1 : S[n]? with
      | none => rw [q1] at e; cases e
      | some ob =>
        rw [q1] at e
        cases ob with
        | lst l =>
          simp only at e
          cases q2 : ixN l.length k with
          | none => rw [q2] at e; cases e
          | some j =>
            rw [q2] at e; cases e
            obtain ⟨vs, h1, h2⟩ := R.ob n a _ h q1
            have hl : a ∉ L := R.notL h1 fun _ _ z => nomatch z
            refine ⟨a, vs, k, j, rfl, rfl, h1, by rw [← h2.length]; exact q2, ?_⟩
            exact q _ (Post.wr h hl) (R.wr h hl ⟨_, upd_same, RVs.mono (Post.wr (L := L) h hl) _ _ (h2.set rv j)⟩)
        | _ => cases e
    | _ => cases e
  | _ => cases e
theorem ss_setIx {o i : Expr} {opos : Pos} (he : SE X w e fe) (ho : SE X w o fo) (hi : SE X w i fi) (hs : swapsWithSole [.Subscript o i opos] e pos.line X.env = pure false := by rfl) (hw : swappedStores [.Subscript o i opos] e X.env = pure none := by rfl)
    (h1 : (assignEach [.Subscript o i opos] X.env).map (·.2) = [assign (.Subscript o i opos) X.env] := by rfl)
    (ha : ∀ v, assign (.Subscript o i opos) X.env v = (do
      let ov ← holding [v] (eval o X.env)
      let iv ← holding [v, ov] (eval i X.env)
      standAt opos
      holding [v, ov, iv] (setItem ov iv v)
      release [v, ov, iv] []) := by intro _; rfl) : SS X w (.Assign [.Subscript o i opos] e pos) (sAsgIx fe fo fi) :=
  PS.imp (ps_asg he (pg_sub ho hi set_list ha) hs hw h1) fun D σ H ⟨B, L, ρ, S, env, A, g⟩ =>
    tE_mono (tE_bindS3 A g) fun x H1 h => tE_mono h fun y H2 h => tE_mono h fun z H3 ⟨B, L, ρ, S, d, d', d'', A, r, r', r'', g⟩ => by
      cases hu : setO d' d'' d S with
      | none => rw [hu] at g; exact g.elim
      | some S' =>
        rw [hu] at g
        exact setO_ok A.rh r' r'' r hu fun H' p R => g σ ρ H' p R (A.re.mono p)
theorem ss_aug {i : Nat} {x : Str} {op : Operator} {r : R2} {g : Op2} {pos' : Pos} (hN : X.N.Nodup) (hi : X.N[i]? = some x) (hx : Loc X.env.scope x) (ho : OpR X (inplaceOp op) r) (h : Ok2 (pg X) r g) (he : SE X w e fe) (hf : X.fn x = true ∨ X.env.scope.names.lookup x = some .local := by first | exact .inl rfl | exact .inr rfl | assumption) :
    SS X w (.AugAssign (.Name x pos') op e pos) (sAug i g fe) := PS.imp (ps_aug hN hi hx he ho hf) fun D σ H ⟨B, L, ρ, S, env, A, gg⟩ => by
  unfold sAug fVar at gg
  cases q : env[i]? with
  | none => rw [q] at gg; exact gg.elim
  | some d =>
    rw [q] at gg
    rcases A.re.at' i d q with z | ⟨v, e1, rv⟩
    · subst z; exact gg.elim
    · have gg' : GS (pg X) w.W w.xm B L ρ H ((fe env S).bindS fun y S2 => match g d y S2 with
          | some (z, S3) => .nx (env.set i z) S3
          | none => .bad) D := by
        cases d
        case und => exact gg.elim
        all_goals exact gg
      refine ⟨v, e1, ?_⟩
      refine ⟨B, L, ρ, S, env, A, ?_⟩
      revert gg'
      cases fe env S with
      | ok d2 S' =>
        intro gg' v2 ρ' H' p R r2
        have g2 := GS.step gg' p
        revert g2
        show GS (pg X) w.W w.xm B L ρ' H' (match g d d2 S' with
          | some (z, S3) => .nx (env.set i z) S3
          | none => .bad) D → _
        cases hu : g d d2 S' with
        | none => exact fun g2 => g2.elim
        | some zs =>
          obtain ⟨z, S3⟩ := zs
          intro g2
          exact h B L ρ' S' S3 H' d d2 z v v2 _ R (rv.mono p) r2 hu fun v3 ρ3 H3 p3 R3 r3 => g2 _ ρ3 H3 p3 R3 ((A.re.mono (p.trans p3)).set i r3)
      | exc c S' => exact fun g => g σ
      | bad => exact fun g => g
theorem ss_augIx {o i : Expr} {op : Operator} {r : R2} {g : Op2} {tpos : Pos} (ho' : OpR X (inplaceOp op) r) (h : Ok2 (pg X) r g) (ho : SE X w o fo) (hi : SE X w i fi) (he : SE X w e fe)
    (ha : ∀ ov iv new, augStore i ov iv new = (do holding [new, ov, iv] (setItem ov iv new); release [new, ov, iv] []; pure .next) := by intros; rfl) : SS X w (.AugAssign (.Subscript o i tpos) op e pos) (sAugIx g fo fi fe) :=
  PS.imp (ps_augS (tget := rIxL X.K) (tset := rSetL) (tip := r) ho hi pget_list he ho' set_list ha) fun D σ H ⟨B, L, ρ, S, env, A, gg⟩ =>
    tE_mono (tE_bindS2 A gg) fun x H1 h1 => tE_mono h1 fun y H2 ⟨B, L, ρ, S, d, d', A, r1, r2, g2⟩ => by
      cases d with
      | loc n =>
        cases d' with
        | int k =>
          unfold augK at g2
          simp only at g2
          cases hu : oIx (.loc n) (.int k) S with
          | none => rw [hu] at g2; exact g2.elim
          | some xs =>
            obtain ⟨x1, S1⟩ := xs
            rw [hu] at g2
            unfold oIx at hu
            simp only at hu
            cases e1 : lsR (.loc n) S with
            | none => rw [e1] at hu; cases hu
            | some l =>
              rw [e1] at hu
              simp only at hu
              cases e2 : ixD l k with
              | none => rw [e2] at hu; cases hu
              | some d3 =>
                rw [e2] at hu; cases hu
                obtain ⟨a, vs, rfl, h5, h6⟩ := lsR_ok (G := pg X) A.rh r1 e1
                obtain ⟨v, e3, r3⟩ := ixD_ok (G := pg X) h6 e2
                cases r2
                refine ⟨a, vs, k, v, rfl, rfl, h5, e3, ?_⟩
                refine ⟨B, L, ρ, S, env, A, ?_⟩
                revert g2
                show GS (pg X) w.W w.xm B L ρ H2 ((fe env S).bindS fun y S4 => augJ g env (.loc n) (.int k) x1 y S4) D → _
                cases fe env S with
                | ok d4 S4 =>
                  intro g2 v4 ρ4 H4 p4 R4 r4
                  have g4 := GS.step g2 p4
                  revert g4
                  show GS (pg X) w.W w.xm B L ρ4 H4 (augJ g env (.loc n) (.int k) x1 d4 S4) D → _
                  unfold augJ
                  cases hg : g x1 d4 S4 with
                  | none => exact fun g => g.elim
                  | some zs =>
                    obtain ⟨z, S5⟩ := zs
                    intro g4
                    refine h B L ρ4 S4 S5 H4 x1 d4 z v v4 _ R4 (r3.mono p4) r4 hg fun v5 ρ5 H5 p5 R5 r5 => ?_
                    have g5 : GS (pg X) w.W w.xm B L ρ4 H4 (sto env (setO (.loc n) (.int k) z S5)) D := g4
                    cases hs : setO (.loc n) (.int k) z S5 with
                    | none => rw [hs] at g5; exact g5.elim
                    | some S6 =>
                      rw [hs] at g5
                      refine setO_ok R5 ((r1.mono p4).mono p5) (.int k) r5 hs fun H6 p6 R6 => ?_
                      exact g5 σ ρ5 H6 (p5.trans p6) R6 (A.re.mono (p4.trans (p5.trans p6)))
                | exc c S' => exact fun g => g σ
                | bad => exact fun g => g
        | _ => cases g2
      | _ => cases g2

/-! ### while -/
theorem ss_while {c : Expr} {body : List Stmt} (N : Nat) (hp : PassesOwn (model X.prog X.w) X.A X.env X.xe) (hc : ST X w c fc) (hb : SSs X w body f) : SS X w (.While c body [] pos) (whileL fc f N) := PS.imp (ps_while hp hc hb) fun D σ H ⟨B, L, ρ, S, env, A, gg⟩ => by
  refine ⟨fun m σ H => ∃ B L ρ S env, At (pg X) B L ρ S env σ H ∧ GS (pg X) w.W w.xm B L ρ H (whileL fc f m env S) D, ⟨N, B, L, ρ, S, env, A, gg⟩, fun m σ H ⟨B, L, ρ, S, env, A, g⟩ => ?_⟩
  cases m with
  | zero => exact g.elim
  | succ m =>
    unfold whileL at g
    refine tT_mono (tT_bindS A g) fun b H1 ⟨B, L, ρ, S, A, g⟩ => ?_
    cases b with
    | false => exact iteF (GS.nx0 g A.rh A.re)
    | true =>
      refine iteT ⟨fun σ H => ∃ B L ρ S env, At (pg X) B L ρ S env σ H ∧ GS (pg X) w.W w.xm B L ρ H (whileL fc f m env S) D, fun σ' H' h => ⟨m, Nat.lt_succ_self m, h⟩, ?_⟩
      refine ⟨B, L, ρ, S, env, A, ?_⟩
      revert g
      show GS (pg X) w.W w.xm B L ρ H1 (match f env S with
        | .nx env' S' => whileL fc f m env' S'
        | .ct env' S' => whileL fc f m env' S'
        | .bk env' S' => .nx env' S'
        | r => r) D → _
      cases f env S with
      | nx env' S' => exact fun g σ' ρ' H' p R re => ⟨B, L, ρ', S', env', ⟨R, re⟩, GS.step g p⟩
      | ct env' S' => exact fun g σ' ρ' H' p R re => ⟨B, L, ρ', S', env', ⟨R, re⟩, GS.step g p⟩
      | bk e S' => exact fun g => g
      | rt e S' => exact fun g => g
      | xc c S' => exact fun g => g
      | bad => exact fun g => g
end
end Sf
end

section
set_option Elab.async false
set_option maxRecDepth 100000
set_option linter.all false
/-! SfE: enumerate over a tuple; a walk over a list or a tuple. -/
namespace Sf
open PySem PySem.Spec PyProof.Rows L2
open AutoSeq1 (wpAny_loadPart')

theorem meets_enum_newT (l : Addr) (items : Array Value) (n : Nat) (dct : Option Addr) (sl : Array (Option Value)) :
    Meets (Builtin.«enumerate.__new__» ⟨[.type "enumerate", .ref l], []⟩) (fun _ R s => s.heap.get? l = some { cls := .type "tuple", dict := dct, data := .seq items n, slots := sl } ∧
      R (.ok (.ret (.ref (s.heap.push { cls := .type "tuple_iterator", data := .fields #[.ref l, .int 0 0] }).objs.size)))
        { s with heap := (s.heap.push { cls := .type "tuple_iterator", data := .fields #[.ref l, .int 0 0] }).push { cls := .type "enumerate", data := .fields #[.none, .bool false, .ref s.heap.objs.size, rawInt 0, .none, .none] } }) :=
  .of_wp fun prog w A R s h => by
    obtain ⟨hp, g, d, tk, os⟩ := s; obtain ⟨hl, h⟩ := h
    have hsub := sub_enumerate
    have hL : Heap.IsTuple (Shared.heap ⟨hp, g, d, tk, os⟩) l items := ⟨_, hl, rfl, n, rfl⟩
    wp_walk using wpAny_loadPart' hl
    refine wpAny_stack_any fun st => wpAny_pure ?_
    split
    · rename_i c _ _ _ _ _
      cases (c == Value.type "enumerate")
      · wp_walk using wpAny_loadPart' hl, wpAny_pyIter_tuple hL
        exact ⟨_, rfl, h⟩
      · wp_walk using wpAny_loadPart' hl, wpAny_pyIter_tuple hL
        exact ⟨_, rfl, h⟩
    · wp_walk using wpAny_loadPart' hl, wpAny_pyIter_tuple hL
      exact ⟨_, rfl, h⟩
theorem call_enum_tuple {prog : Program} {w : World} {A : Around} {E : Value → Shared → Prop} {s : Shared} {l : Addr} {items : Array Value} {Q : Value → Shared → Prop} (hL : s.heap.IsTuple l items)
    (h : ∀ h', IsEnum h' (s.heap.objs.size + 1) s.heap.objs.size 0 .none → h'.IsTupleIter s.heap.objs.size l 0 → h'.objs.size = s.heap.objs.size + 2 →
      (∀ b o, s.heap.get? b = some o → h'.get? b = some o) → Q (.ref (s.heap.objs.size + 1)) { s with heap := h' }) :
    wpAny (model prog w) A (call (.type "enumerate") [.ref l]) Q E s := by
  obtain ⟨⟨c, dct, dt, sl⟩, hl, hc, n, hd⟩ := hL
  replace hc : c = .type "tuple" := hc
  replace hd : dt = .seq items n := hd
  subst hc hd
  refine callType_new F.called_enumerate (by decide) (F.typeCall_enumerate_1 _) (F.newCall_enumerate_1 _) (fun obj => F.args_object_init_2 obj _) F.entry_enumerate_new
    (meets_enum_newT l items n dct sl) ⟨hl, ?_⟩
  have hz : (s.heap.push { cls := .type "tuple_iterator", data := .fields #[.ref l, .int 0 0] }).objs.size = s.heap.objs.size + 1 := Heap.size_push ..
  show _ ∧ _
  rw [hz]
  have he : IsEnum ((s.heap.push { cls := .type "tuple_iterator", data := .fields #[.ref l, .int 0 0] }).push
      { cls := .type "enumerate", data := .fields #[.none, .bool false, .ref s.heap.objs.size, rawInt 0, .none, .none] }) (s.heap.objs.size + 1) s.heap.objs.size 0 .none := by
    have := Heap.get?_push_size (s.heap.push { cls := .type "tuple_iterator", data := .fields #[.ref l, .int 0 0] })
      (o := { cls := .type "enumerate", data := .fields #[.none, .bool false, .ref s.heap.objs.size, rawInt 0, .none, .none] }) rfl
    rw [hz] at this; exact this
  refine ⟨⟨_, he, rfl⟩, h _ he ⟨_, Heap.get?_push_of_some _ (Heap.get?_push_size _ rfl), rfl, rfl⟩ (by rw [Heap.size_push, hz]) fun b o x => Heap.get?_push_of_some _ (Heap.get?_push_of_some _ x)⟩

/-- the tuple at a, each item in a new pair -/
def IteT (K : PySem.W.Frag) (a : Addr) : It :=
  ⟨fun i H => ∃ (xs : List V) (x : V), SqT K H a xs ∧ xs[i]? = some x, fun i H v H' => ∃ T x, v = .ref T ∧ H T = none ∧ H' = upd H T (.tup [.int (i : Nat), x]) ∧ ∀ xs, SqT K H a xs → xs[i]? = some x, fun i H => ∃ xs : List V, SqT K H a xs ∧ xs.length = i⟩
theorem turn_enumT {P : Program} {w : World} {K : PySem.W.Frag} {elts : List Expr} {kk : Nat} {tpos : Pos} (a e it : Addr) :
    Turn P w K (.Tuple elts kk tpos) (IteT K a) [e, it] e (fun i h => (∃ old, IsEnum h e it ((i : Nat) : Int) old) ∧ h.IsTupleIter it a i ∧ e ≠ it ∧ a ≠ it ∧ a ≠ e) where
  mem := by simp
  obj := fun i h st b hb => by
    obtain ⟨⟨old, he⟩, ⟨o, ho, hc, hd⟩, _⟩ := st
    have e' : b = e ∨ b = it := by simpa using hb
    rcases e' with z | z
    · rw [z]; exact ⟨_, he, fun v q => nomatch q⟩
    · rw [z]; exact ⟨o, ho, fun v q => by rw [hd] at q; cases q⟩
  keep := fun i h h' st k => let ⟨⟨old, he⟩, hi, hne⟩ := st; ⟨⟨old, k e (by simp) _ he⟩, hi.at fun o q => k it (by simp) o q, hne⟩
  item := by
    intro X hP hw hK hc i pins s σ H E I hf st hg
    subst hP hw hK
    obtain ⟨⟨old, he⟩, hit, hne, ha1, ha2⟩ := st
    obtain ⟨xs, x, hq, hx⟩ := hg
    obtain ⟨its, rv, p, hz⟩ := I.tuple hq
    obtain ⟨u, hu, ru⟩ := rv.get hx
    have hel : e < s.heap.objs.size := Heap.lt_size he
    have hil : it < s.heap.objs.size := by obtain ⟨_, q, _⟩ := hit; exact Heap.lt_size q
    have hlt : i < its.toArray.size := by
      have := (List.getElem?_eq_some_iff.mp hu).1
      simpa using this
    refine wpAny_pyNext_enum_itemD (PySem.Draws.tuple (A := X.A.in1) (I.ok.hd hc) it a ha1 its.toArray) he ⟨hit, p⟩ hlt hne (by simp [hne, Ne.symm ha2]) fun y h' tk hy ho st' hT hsz hk => ?_
    have hyu : y = u := by
      have h1 : its[i]? = some y := by simpa using hy
      rw [hu] at h1
      exact (Option.some.inj h1).symm
    subst hyu
    refine ⟨_, rfl, wpAny_letOwnedTupleGo_enum (s := { s with heap := h', toks := tk + 1 }) ho fun h'' he' sb => ?_⟩
    have hT2 : h''.get? s.heap.objs.size = some { cls := .type "tuple", data := .seq #[.int i tk, y] } := (sb.2 _ (Nat.ne_of_gt hel)).trans hT
    have new : ObjOk X.prog X.w (upd H s.heap.objs.size (.tup [.int (i : Nat), x])) h'' s.heap.objs.size (.tup [.int (i : Nat), x]) :=
      ⟨by show 2 ≤ sizeLine; decide, [.int i tk, y], .cons ⟨_, rfl⟩ (.cons ru .nil), ⟨_, hT2, rfl, _, rfl⟩⟩
    have I1 : Inv X pins σ (upd H s.heap.objs.size (.tup [.int (i : Nat), x])) { s with heap := h'', toks := tk + 1 } :=
      I.turnedNew (ch := [e, it]) (fun b ob hb q => (sb.2 b (fun z => hb (by simp [z]))).trans (hk b ob (fun z => hb (by simp [z])) (fun z => hb (by simp [z])) q)) hf (Nat.le_refl _) new
    refine ⟨.ref s.heap.objs.size, _, I1, rfl, ⟨_, x, rfl, I.hok.fresh (Nat.le_refl _), rfl, fun ys hy => by rw [I.tuple_inj hy hq]; exact hx⟩, ⟨⟨y, ?_⟩, st'.1.at fun o q => (sb.2 it (Ne.symm hne)).trans q, hne, ha1, ha2⟩, fun b hb => ?_⟩
    · have e1 : ((i + 1 : Nat) : Int) = (i : Int) + 1 := by omega
      rw [e1]; exact he'
    · have hb' : b < s.heap.objs.size := by
        have e' : b = e ∨ b = it := by simpa using hb
        rcases e' with z | z
        · rw [z]; exact hel
        · rw [z]; exact hil
      rw [upd_ne (Nat.ne_of_lt hb')]
      exact (hf b hb).1
  done := by
    intro X hP hw hK hc i pins s σ H E I hf st hg
    subst hP hw hK
    obtain ⟨⟨old, he⟩, hit, hne, ha1, ha2⟩ := st
    obtain ⟨xs, hq, hx⟩ := hg
    obtain ⟨its, rv, p, hz⟩ := I.tuple hq
    obtain ⟨f0, f1, f2, f3, f4, f5⟩ := hf it (by simp)
    have hl := rv.length
    have hsz : its.toArray.size = i := by simp; omega
    refine wpAny_pyNext_enum_endD (PySem.Draws.tuple (A := X.A.in1) (I.ok.hd hc) it a ha1 its.toArray) he ?_ fun h' eb => ⟨rfl, I.turned (t' := s.toks) (fun b o hb q => eb b o hb q) f0 f1 f3 f4 f5⟩
    rw [hsz]
    exact ⟨hit, p⟩
  self := fun A i s Q E st h => let ⟨⟨_, he⟩, _⟩ := st; wpAny_pyIter_enum he h
def iEnumT (K : PySem.W.Frag) (ta : TA) : TI := fun σ H R => ta σ H fun vs H1 => ∃ a xs, vs = [.ref a] ∧ SqT K H1 a xs ∧ R (IteT K a) H1
theorem pi_enumT {X : Cx} {e : Expr} {ta : TA} {p pos tpos : Pos} {elts : List Expr} {kk : Nat} (hg : Gl X "enumerate") (hm : X.mg "enumerate" = none) (ha : PA X [e] ta) (hs : starEach [e] X.env = [(false, eval e X.env)] := by rfl) :
    PI X (.Tuple elts kk tpos) (.Call (.Name "enumerate" p) [e] [] pos) (iEnumT X.K ta) := by
  refine ⟨fun pins s σ H R I h => ?_⟩
  refine Call_ (ld_blt I hg hm boot_enumerate (PyProof.Rows.callWith_type1 (thn (ha.run pos pins s σ H _ I h) fun us s1 ⟨vs, H1, I1, r1, q1⟩ => ?_) hs rfl))
  obtain ⟨a, xs, ex, hq, q⟩ := q1
  subst ex
  cases r1 with
  | cons r rr =>
    cases rr
    cases r
    obtain ⟨its, rv, p', hz⟩ := I1.tuple hq
    have hal : a < s1.heap.objs.size := by obtain ⟨o, q, _⟩ := id p'; exact Heap.lt_size q
    refine call_enum_tuple (show s1.heap.IsTuple a its.toArray from p') fun h' he hit hsz hk => wpAny_pyIter_enum he ?_
    have I2 : Inv X pins σ H1 { s1 with heap := h' } := I1.kept (t' := s1.toks) hk
    refine ⟨s1.heap.objs.size + 1, [s1.heap.objs.size + 1, s1.heap.objs.size], _, _, H1, rfl, I2, turn_enumT a (s1.heap.objs.size + 1) s1.heap.objs.size, ⟨⟨.none, he⟩, hit, Nat.succ_ne_self _, Nat.ne_of_lt hal, Nat.ne_of_lt (Nat.lt_succ_of_lt hal)⟩, fun b hb => ?_, q⟩
    have e' : b = s1.heap.objs.size + 1 ∨ b = s1.heap.objs.size := by simpa using hb
    have hle : s1.heap.objs.size ≤ b := by
      rcases e' with z | z
      · rw [z]; exact Nat.le_add_right _ _
      · rw [z]; exact Nat.le_refl _
    exact I1.fpOk hle (I1.hok.fresh hle)
/-- a list or a tuple, walked -/
def iSeq (K : PySem.W.Frag) (tl : TE) : TI := fun σ H R => tl σ H fun x H1 => ∃ a, x = .ref a ∧ (((∃ xs, SqL K H1 a xs) ∧ R (Itl K a) H1) ∨ ((∃ xs, SqT K H1 a xs) ∧ R (Itt K a) H1))
theorem pi_seq {X : Cx} {tg l : Expr} {tl : TE} (hl : PE X l tl) : PI X tg l (iSeq X.K tl) := by
  refine ⟨fun pins s σ H R I h => ?_⟩
  refine thn (hl.run pins s σ H _ I h) fun v s1 ⟨x, H1, I1, r1, q1⟩ => ?_
  obtain ⟨a, e, q⟩ := q1
  subst e
  cases r1
  rcases q with ⟨⟨xs, hq⟩, q⟩ | ⟨⟨xs, hq⟩, q⟩
  · obtain ⟨its, rv, p, hz⟩ := I1.list hq
    refine wpAny_pyIter_list p.isList ?_
    refine ⟨s1.heap.objs.size, [s1.heap.objs.size], _, _, H1, rfl, I1.kept (t' := s1.toks) fun b o e => Heap.get?_push_of_some _ e, turn_list a _, ⟨_, Heap.get?_push_size _ rfl, rfl, rfl⟩, fun b hb => ?_, q⟩
    have e : b = s1.heap.objs.size := by simpa using hb
    subst e
    exact I1.fpOk (Nat.le_refl _) (I1.hok.fresh (Nat.le_refl _))
  · obtain ⟨its, rv, p, hz⟩ := I1.tuple hq
    refine wpAny_pyIter_tuple (show s1.heap.IsTuple a its.toArray from p) ?_
    refine ⟨s1.heap.objs.size, [s1.heap.objs.size], _, _, H1, rfl, I1.kept (t' := s1.toks) fun b o e => Heap.get?_push_of_some _ e, turn_tuple a _, ⟨_, Heap.get?_push_size _ rfl, rfl, rfl⟩, fun b hb => ?_, q⟩
    have e : b = s1.heap.objs.size := by simpa using hb
    subst e
    exact I1.fpOk (Nat.le_refl _) (I1.hok.fresh (Nat.le_refl _))
end Sf
end

section
set_option Elab.async false
set_option maxRecDepth 100000
set_option linter.all false
/-! Sf6: for loops, comprehensions. -/
namespace Sf
open PySem PySem.Spec PyProof.Rows L2 RZ

theorem RV.re {K : PySem.W.Frag} {B1 ρ1 B2 ρ2 : List Addr} {H : Hp} (hB : ∀ a, a ∈ B2 ∨ a ∈ ρ2 → a ∈ B1 ∨ a ∈ ρ1) (hp : ∀ (n : Nat) (a : Addr), ρ1[n]? = some a → ρ2[n]? = some a) :
    ∀ {d : D} {v : V}, RV K B1 ρ1 H d v → RV K B2 ρ2 H d v := by
  have out : ∀ a, a ∉ B1 → a ∉ ρ1 → a ∉ B2 ∧ a ∉ ρ2 := fun a h1 h2 => ⟨fun z => (hB a (.inl z)).elim h1 h2, fun z => (hB a (.inr z)).elim h1 h2⟩
  intro d v h
  refine RV.rec (motive_1 := fun d v _ => RV K B2 ρ2 H d v) (motive_2 := fun ds vs _ => RVs K B2 ρ2 H ds vs) .non .bl .int .str (fun h _ ih => ?_) (fun h1 h2 h3 _ ih => ?_) (fun h _ ih => ?_) (fun h => .loc (hp _ _ h)) (fun h => .glob h) .nil (fun _ _ ih1 ih2 => .cons ih1 ih2) h
  · exact .tup ⟨(out _ h.1 h.2.1).1, (out _ h.1 h.2.1).2, h.2.2⟩ ih
  · exact .lst (out _ h1 h2).1 (out _ h1 h2).2 h3 ih
  · exact .scr (h.imp (fun h => ⟨(out _ h.1 h.2.1).1, (out _ h.1 h.2.1).2, h.2.2⟩) id) ih
theorem RVs.re {K : PySem.W.Frag} {B1 ρ1 B2 ρ2 : List Addr} {H : Hp} (hB : ∀ a, a ∈ B2 ∨ a ∈ ρ2 → a ∈ B1 ∨ a ∈ ρ1) (hp : ∀ (n : Nat) (a : Addr), ρ1[n]? = some a → ρ2[n]? = some a) :
    ∀ {ds : List D} {vs : List V}, RVs K B1 ρ1 H ds vs → RVs K B2 ρ2 H ds vs
  | _, _, .nil => .nil
  | _, _, .cons h t => .cons (h.re hB hp) (RVs.re hB hp t)
/-- an address that is avoided is written -/
theorem RV.av {K : PySem.W.Frag} {B ρ : List Addr} {H : Hp} {p : Addr} {o : HO} (hp : p ∈ B) : ∀ {d : D} {v : V}, RV K B ρ H d v → RV K B ρ (upd H p o) d v := by
  intro d v h
  have ne : ∀ a, a ∉ B → a ≠ p := fun a h z => h (z ▸ hp)
  refine RV.rec (motive_1 := fun d v _ => RV K B ρ (upd H p o) d v) (motive_2 := fun ds vs _ => RVs K B ρ (upd H p o) ds vs) .non .bl .int .str (fun h _ ih => ?_) (fun h1 h2 h3 _ ih => ?_) (fun h _ ih => ?_) (fun h => .loc h) (fun h => .glob h) .nil (fun _ _ ih1 ih2 => .cons ih1 ih2) h
  · exact .tup ⟨h.1, h.2.1, by rw [upd_ne (ne _ h.1)]; exact h.2.2⟩ ih
  · exact .lst h1 h2 (by rw [upd_ne (ne _ h1)]; exact h3) ih
  · refine .scr (h.imp (fun h => ⟨h.1, h.2.1, ?_⟩) id) ih
    unfold Rd; rw [upd_ne (ne _ h.1)]; exact h.2.2
theorem RVs.av {K : PySem.W.Frag} {B ρ : List Addr} {H : Hp} {p : Addr} {o : HO} (hp : p ∈ B) : ∀ {ds : List D} {vs : List V}, RVs K B ρ H ds vs → RVs K B ρ (upd H p o) ds vs
  | _, _, .nil => .nil
  | _, _, .cons h t => .cons (h.av hp) (RVs.av hp t)
/-- a new address is avoided -/
theorem RV.addB {K : PySem.W.Frag} {B ρ : List Addr} {H : Hp} {p : Addr} {o : HO} (hn : H p = none) : ∀ {d : D} {v : V}, RV K B ρ H d v → RV K (p :: B) ρ (upd H p o) d v := by
  intro d v h
  have ne : ∀ a u, H a = some u → a ≠ p := fun a u h => ne_of_none h hn
  have nb : ∀ a u, a ∉ B → H a = some u → a ∉ p :: B := fun a u h1 h2 z => (List.mem_cons.mp z).elim (ne a u h2) h1
  refine RV.rec (motive_1 := fun d v _ => RV K (p :: B) ρ (upd H p o) d v) (motive_2 := fun ds vs _ => RVs K (p :: B) ρ (upd H p o) ds vs) .non .bl .int .str (fun h _ ih => ?_) (fun h1 h2 h3 _ ih => ?_) (fun h _ ih => ?_) (fun h => .loc h) (fun h => .glob h) .nil (fun _ _ ih1 ih2 => .cons ih1 ih2) h
  · exact .tup ⟨nb _ _ h.1 h.2.2, h.2.1, by rw [upd_ne (ne _ _ h.2.2)]; exact h.2.2⟩ ih
  · exact .lst (nb _ _ h1 h3) h2 (by rw [upd_ne (ne _ _ h3)]; exact h3) ih
  · refine .scr (h.imp (fun h => ?_) id) ih
    rcases h.2.2 with z | ⟨ob, z⟩
    · exact ⟨nb _ _ h.1 z, h.2.1, .inl (by rw [upd_ne (ne _ _ z)]; exact z)⟩
    · exact ⟨nb _ _ h.1 z, h.2.1, .inr ⟨ob, by rw [upd_ne (ne _ _ z)]; exact z⟩⟩
theorem RVs.addB {K : PySem.W.Frag} {B ρ : List Addr} {H : Hp} {p : Addr} {o : HO} (hn : H p = none) : ∀ {ds : List D} {vs : List V}, RVs K B ρ H ds vs → RVs K (p :: B) ρ (upd H p o) ds vs
  | _, _, .nil => .nil
  | _, _, .cons h t => .cons (h.addB hn) (RVs.addB hn t)

/-! ### what a walk gives -/
structure WalkOk (G : Pg) (L : List Addr) (J : It) (l : List D) (I : List Addr → List Addr → Hp → Prop) : Prop where
  mono : ∀ (B ρ ρ' : List Addr) (H H' : Hp), Post L ρ H ρ' H' → I B ρ H → I B ρ' H'
  addB : ∀ (B ρ : List Addr) (H : Hp) (p : Addr) (o : HO), H p = none → I B ρ H → I (p :: B) ρ (upd H p o)
  av : ∀ (B ρ : List Addr) (H : Hp) (p : Addr) (o : HO), p ∈ B → I B ρ H → I B ρ (upd H p o)
  stop : ∀ (B ρ : List Addr) (H : Hp), I B ρ H → J.stop l.length H
  go : ∀ (B ρ : List Addr) (H : Hp) (i : Nat), I B ρ H → i < l.length → J.go i H
  yld : ∀ (B ρ : List Addr) (S : Sto) (H H' : Hp) (i : Nat) (d : D) (x : V), I B ρ H → RH G B L ρ H S → l[i]? = some d → J.yld i H x H' → Post L ρ H ρ H' ∧ RH G B L ρ H' S ∧ RV G.K B ρ H' d x
abbrev rJ (G : Pg) (B L : List Addr) : List Addr → Hp → List D → It → Prop := fun ρ H l J => ∃ I, WalkOk G L J l I ∧ I B ρ H
def tI (G : Pg) (W : WX) (xm : XM) (f : FA) : TI := fun σ H R => ∃ B L ρ S env, At G B L ρ S env σ H ∧ GO G W xm B L ρ H σ (rJ G B L) (f env S) R
theorem PI.imp {X : Cx} {tg e : Expr} {t t' : TI} (h : PI X tg e t) (i : ∀ σ H Q, t' σ H Q → t σ H Q) : PI X tg e t' := ⟨fun pins s σ H Q I q => h.run pins s σ H Q I (i σ H Q q)⟩
abbrev SI (X : Cx) (w : Wx) (tg e : Expr) (f : FA) : Prop := PI X tg e (tI (pg X) w.W w.xm f)
def itemsD : D → Option (List D)
  | .tup l => some l
  | .lst l => some l
  | .scr l => some l
  | _ => none
def iSq (a : FE) : FA := fun env S => (a env S).bind fun x S1 => match itemsD x with
  | some l => .ok l S1
  | none => .bad
def rngL (lo : Int) : Nat → List D
  | 0 => []
  | n + 1 => .int lo :: rngL (lo + 1) n
def smallI (i : Int) : Bool := decide (-1000000000000 ≤ i) && decide (i ≤ 1000000000000)
def iRng (a : FE) : FA := fun env S => (a env S).bind fun x S1 => match x with
  | .int j => bif smallI j then .ok (rngL 0 j.toNat) S1 else .bad
  | _ => .bad
def iRngB (a b : FE) : FA := fun env S => (a env S).bind fun x S1 => (b env S1).bind fun y S2 => match x, y with
  | .int i, .int j => bif smallI i && smallI j then .ok (rngL i (j - i).toNat) S2 else .bad
  | _, _ => .bad
def enumL (k : Nat) : List D → List D
  | [] => []
  | d :: r => .tup [.int k, d] :: enumL (k + 1) r
def iEnumF (a : FE) : FA := fun env S => (a env S).bind fun x S1 => match x with
  | .tup l => .ok (enumL 0 l) S1
  | _ => .bad
def zipL : List D → List D → List D
  | a :: as, b :: bs => .tup [a, b] :: zipL as bs
  | _, _ => []
def iZipF (a b : FE) : FA := fun env S => (a env S).bind fun x S1 => (b env S1).bind fun y S2 => match x, y with
  | .tup l, .tup m => .ok (zipL l m) S2
  | _, _ => .bad
theorem rngL_len (lo : Int) (n : Nat) : (rngL lo n).length = n := by
  induction n generalizing lo with
  | zero => rfl
  | succ n ih => unfold rngL; rw [List.length_cons, ih]
theorem rngL_get {lo : Int} {n i : Nat} {d : D} (h : (rngL lo n)[i]? = some d) : d = .int (lo + i) := by
  induction n generalizing lo i with
  | zero => simp [rngL] at h
  | succ n ih =>
    unfold rngL at h
    cases i with
    | zero => simp at h; rw [← h]; simp
    | succ i => rw [ih (by simpa using h)]; congr 1; omega
theorem enumL_len (k : Nat) (l : List D) : (enumL k l).length = l.length := by
  induction l generalizing k with
  | nil => rfl
  | cons d r ih => unfold enumL; rw [List.length_cons, List.length_cons, ih]
theorem enumL_get {k i : Nat} {l : List D} {d : D} (h : (enumL k l)[i]? = some d) : ∃ e, l[i]? = some e ∧ d = .tup [.int ((k + i : Nat) : Int), e] := by
  induction l generalizing k i with
  | nil => simp [enumL] at h
  | cons a r ih =>
    unfold enumL at h
    cases i with
    | zero => simp at h; exact ⟨a, by simp, by rw [← h]; rfl⟩
    | succ i =>
      obtain ⟨e, h1, h2⟩ := ih (by simpa using h)
      exact ⟨e, by simpa using h1, by rw [h2]; congr 3; omega⟩
theorem zipL_len (l m : List D) : (zipL l m).length = min l.length m.length := by
  induction l generalizing m with
  | nil => simp [zipL]
  | cons d r ih =>
    cases m with
    | nil => simp [zipL]
    | cons e s => unfold zipL; rw [List.length_cons, ih, List.length_cons, List.length_cons]; omega
theorem zipL_get {i : Nat} {l m : List D} {d : D} (h : (zipL l m)[i]? = some d) : ∃ e f, l[i]? = some e ∧ m[i]? = some f ∧ d = .tup [e, f] := by
  induction l generalizing m i with
  | nil => simp [zipL] at h
  | cons a r ih =>
    cases m with
    | nil => simp [zipL] at h
    | cons b s =>
      unfold zipL at h
      cases i with
      | zero => simp at h; exact ⟨a, b, by simp, by simp, h.symm⟩
      | succ i => simpa using ih (by simpa using h)
section
variable {G : Pg} {L : List Addr}
/-- a list that stands still -/
theorem ScrAt.addB {K : PySem.W.Frag} {B ρ : List Addr} {H : Hp} {a p : Addr} {o : HO} {vs : List V} (hn : H p = none) (h : ScrAt K B ρ H a vs) : ScrAt K (p :: B) ρ (upd H p o) a vs := h.imp (fun h => by
  rcases h.2.2 with z | ⟨ob, z⟩
  · exact ⟨fun q => (List.mem_cons.mp q).elim (ne_of_none z hn) h.1, h.2.1, .inl (by rw [upd_ne (ne_of_none z hn)]; exact z)⟩
  · exact ⟨fun q => (List.mem_cons.mp q).elim (ne_of_none z hn) h.1, h.2.1, .inr ⟨ob, by rw [upd_ne (ne_of_none z hn)]; exact z⟩⟩) id
theorem walk_scr {a : Addr} {vs : List V} {l : List D} : WalkOk G L (Itl G.K a) l (fun B ρ H => ScrAt G.K B ρ H a vs ∧ RVs G.K B ρ H l vs) where
  mono := fun B ρ ρ' H H' p ⟨h, r⟩ => ⟨h.imp (fun h => ⟨h.1, p.outR h.2.1 h.2.2, p.rd h.2.1 h.2.2⟩) id, RVs.mono p _ _ r⟩
  addB := fun B ρ H p o hn ⟨h, r⟩ => ⟨h.addB hn, r.addB hn⟩
  av := fun B ρ H p o hp ⟨h, r⟩ => ⟨h.imp (fun h => ⟨h.1, h.2.1, by unfold Rd; rw [upd_ne (by rintro rfl; exact h.1 hp)]; exact h.2.2⟩) id, r.av hp⟩
  stop := fun B ρ H ⟨h, r⟩ => ⟨vs, h.sq, Nat.le_of_eq r.length.symm⟩
  go := fun B ρ H i ⟨h, r⟩ hi => by
    obtain ⟨v, e, _⟩ := r.get (List.getElem?_eq_getElem hi)
    exact ⟨vs, v, h.sq, e⟩
  yld := fun B ρ S H H' i d x ⟨h, r⟩ R hd ⟨e, y⟩ => by
    subst e
    obtain ⟨v, e, rv⟩ := r.get hd
    have := y vs h.sq
    rw [e] at this; cases this
    exact ⟨Post.refl, R, rv⟩
theorem walk_tup {a : Addr} {vs : List V} {l : List D} : WalkOk G L (Itt G.K a) l (fun B ρ H => TupAt B ρ H a vs ∧ RVs G.K B ρ H l vs) where
  mono := fun B ρ ρ' H H' p ⟨h, r⟩ => ⟨⟨h.1, p.out h.2.1 h.2.2, p.ext _ _ (.inl h.2.1) h.2.2⟩, RVs.mono p _ _ r⟩
  addB := fun B ρ H p o hn ⟨h, r⟩ => ⟨⟨fun z => (List.mem_cons.mp z).elim (ne_of_none h.2.2 hn) h.1, h.2.1, by rw [upd_ne (ne_of_none h.2.2 hn)]; exact h.2.2⟩, r.addB hn⟩
  av := fun B ρ H p o hp ⟨h, r⟩ => ⟨⟨h.1, h.2.1, by rw [upd_ne (by rintro rfl; exact h.1 hp)]; exact h.2.2⟩, r.av hp⟩
  stop := fun B ρ H ⟨h, r⟩ => ⟨vs, h.sq, Nat.le_of_eq r.length.symm⟩
  go := fun B ρ H i ⟨h, r⟩ hi => by
    obtain ⟨v, e, _⟩ := r.get (List.getElem?_eq_getElem hi)
    exact ⟨vs, v, h.sq, e⟩
  yld := fun B ρ S H H' i d x ⟨h, r⟩ R hd ⟨e, y⟩ => by
    subst e
    obtain ⟨v, e, rv⟩ := r.get hd
    have := y vs h.sq
    rw [e] at this; cases this
    exact ⟨Post.refl, R, rv⟩
theorem walk_rng {lo : Int} {n : Nat} : WalkOk G L (Itr lo n) (rngL lo n) (fun _ _ _ => True) where
  mono := fun _ _ _ _ _ _ _ => trivial
  addB := fun _ _ _ _ _ _ _ => trivial
  av := fun _ _ _ _ _ _ _ => trivial
  stop := fun _ _ _ _ => by rw [rngL_len]; exact Nat.le_refl _
  go := fun _ _ _ i _ hi => by rw [rngL_len] at hi; exact hi
  yld := fun B ρ S H H' i d x _ R hd ⟨e, y⟩ => by
    subst e y
    rw [rngL_get hd]
    exact ⟨Post.refl, R, .int _⟩
theorem walk_enum {a : Addr} {vs : List V} {l : List D} : WalkOk G L (IteT G.K a) (enumL 0 l) (fun B ρ H => TupAt B ρ H a vs ∧ RVs G.K B ρ H l vs) where
  mono := (walk_tup (G := G) (L := L)).mono
  addB := (walk_tup (G := G) (L := L)).addB
  av := (walk_tup (G := G) (L := L)).av
  stop := fun B ρ H ⟨h, r⟩ => ⟨vs, h.sq, by rw [enumL_len]; exact r.length.symm⟩
  go := fun B ρ H i ⟨h, r⟩ hi => by
    rw [enumL_len] at hi
    obtain ⟨v, e, _⟩ := r.get (List.getElem?_eq_getElem hi)
    exact ⟨vs, v, h.sq, e⟩
  yld := fun B ρ S H H' i d x ⟨h, r⟩ R hd ⟨T, v, e1, hn, e2, y⟩ => by
    subst e1 e2
    obtain ⟨e, he, rfl⟩ := enumL_get hd
    obtain ⟨v', e3, rv⟩ := r.get he
    have := y vs h.sq
    rw [e3] at this; cases this
    refine ⟨Post.newV hn, R.newV hn, .tup ⟨(R.fresh hn).2, (R.fresh hn).1, upd_same⟩ (.cons ?_ (.cons (rv.mono (Post.newV (L := L) hn)) .nil))⟩
    rw [Nat.zero_add]; exact .int _
theorem walk_zip {a b : Addr} {vs ws : List V} {l m : List D} : WalkOk G L (ItzT G.K a b) (zipL l m) (fun B ρ H => (TupAt B ρ H a vs ∧ RVs G.K B ρ H l vs) ∧ TupAt B ρ H b ws ∧ RVs G.K B ρ H m ws) where
  mono := fun B ρ ρ' H H' p ⟨h, h'⟩ => ⟨(walk_tup (G := G) (L := L)).mono B ρ ρ' H H' p h, (walk_tup (G := G) (L := L)).mono B ρ ρ' H H' p h'⟩
  addB := fun B ρ H p o hn ⟨h, h'⟩ => ⟨(walk_tup (G := G) (L := L)).addB B ρ H p o hn h, (walk_tup (G := G) (L := L)).addB B ρ H p o hn h'⟩
  av := fun B ρ H p o hp ⟨h, h'⟩ => ⟨(walk_tup (G := G) (L := L)).av B ρ H p o hp h, (walk_tup (G := G) (L := L)).av B ρ H p o hp h'⟩
  stop := fun B ρ H ⟨⟨h, r⟩, ⟨h', r'⟩⟩ => ⟨vs, ws, h.sq, h'.sq, by rw [zipL_len, ← r.length, ← r'.length]; omega⟩
  go := fun B ρ H i ⟨⟨h, r⟩, ⟨h', r'⟩⟩ hi => by
    rw [zipL_len] at hi
    obtain ⟨v, e, _⟩ := r.get (List.getElem?_eq_getElem (show i < l.length by omega))
    obtain ⟨v', e', _⟩ := r'.get (List.getElem?_eq_getElem (show i < m.length by omega))
    exact ⟨vs, ws, v, v', h.sq, h'.sq, e, e'⟩
  yld := fun B ρ S H H' i d x ⟨⟨h, r⟩, ⟨h', r'⟩⟩ R hd ⟨T, v, v', e1, hn, e2, y, y'⟩ => by
    subst e1 e2
    obtain ⟨e, f, he, hf, rfl⟩ := zipL_get hd
    obtain ⟨w1, e3, rv⟩ := r.get he
    obtain ⟨w2, e4, rv'⟩ := r'.get hf
    have z1 := y vs h.sq
    have z2 := y' ws h'.sq
    rw [e3] at z1; cases z1
    rw [e4] at z2; cases z2
    exact ⟨Post.newV hn, R.newV hn, .tup ⟨(R.fresh hn).2, (R.fresh hn).1, upd_same⟩ (.cons (rv.mono (Post.newV (L := L) hn)) (.cons (rv'.mono (Post.newV (L := L) hn)) .nil))⟩
end

section
variable {G : Pg} {W : WX} {xm : XM} {f fa fb : FE} {fs : FA}
theorem tE_bindL {α β : Type} {rel : List Addr → List Addr → List Addr → Hp → α → β → Prop} {B L ρ S env σ H} {k : D → Sto → Out α} {Q : β → Hp → Prop} (A : At G B L ρ S env σ H) (g : GO G W xm B L ρ H σ (rel B L) ((f env S).bind k) Q) :
    tE G W xm f σ H fun x H1 => ∃ B L ρ S d, At G B L ρ S env σ H1 ∧ RV G.K B ρ H1 d x ∧ GO G W xm B L ρ H1 σ (rel B L) (k d S) Q := by
  refine ⟨B, L, ρ, S, env, A, ?_⟩
  revert g
  cases f env S with
  | ok d S' => exact fun g v ρ' H' p R r => ⟨B, L, ρ', S', d, A.step p R, r, GO.step g p⟩
  | exc c S' => exact fun g => g
  | bad => exact fun g => g
theorem tA_bindL {α β : Type} {rel : List Addr → List Addr → List Addr → Hp → α → β → Prop} {B L ρ S env σ H} {k : List D → Sto → Out α} {Q : β → Hp → Prop} (A : At G B L ρ S env σ H) (g : GO G W xm B L ρ H σ (rel B L) ((fs env S).bind k) Q) :
    tA G W xm fs σ H fun x H1 => ∃ B L ρ S d, At G B L ρ S env σ H1 ∧ RVs G.K B ρ H1 d x ∧ GO G W xm B L ρ H1 σ (rel B L) (k d S) Q := by
  refine ⟨B, L, ρ, S, env, A, ?_⟩
  revert g
  cases fs env S with
  | ok d S' => exact fun g v ρ' H' p R r => ⟨B, L, ρ', S', d, A.step p R, r, GO.step g p⟩
  | exc c S' => exact fun g => g
  | bad => exact fun g => g
end
section
variable {X : Cx} {w : Wx} {tg e e2 : Expr} {fe fe2 : FE} {fs : FA} {p pos tpos : Pos} {elts : List Expr} {kk : Nat}
theorem si_seq (he : SE X w e fe) : SI X w tg e (iSq fe) := PI.imp (pi_seq he) fun σ H R ⟨B, L, ρ, S, env, A, g⟩ =>
  tE_mono (tE_bindL (rel := rJ (pg X)) A g) fun x H1 ⟨B, L, ρ, S, d, A, r, g⟩ => by
    cases r with
    | tup h r => exact ⟨_, rfl, .inr ⟨⟨_, h.sq⟩, GO.ok0 g A ⟨_, walk_tup, h, r⟩⟩⟩
    | lst h1 h2 h3 r => exact ⟨_, rfl, .inl ⟨⟨_, .inl (.inl h3)⟩, GO.ok0 g A ⟨_, walk_scr, .inl ⟨h1, h2, .inl h3⟩, r⟩⟩⟩
    | scr h r => exact ⟨_, rfl, .inl ⟨⟨_, h.sq⟩, GO.ok0 g A ⟨_, walk_scr, h, r⟩⟩⟩
    | _ => exact g.elim
def oneA (fe : FE) : FA := fCons fe fNil
theorem smallI_ok {i : Int} (h : smallI i = true) : -(2 ^ 62) ≤ i ∧ i < 2 ^ 62 := by
  unfold smallI at h
  rw [Bool.and_eq_true] at h
  have h1 := of_decide_eq_true h.1
  have h2 := of_decide_eq_true h.2
  omega
def iOf (k : List D → Option (List D)) (fs : FA) : FA := fun env S => (fs env S).bind fun xs S1 => match k xs with
  | some l => .ok l S1
  | none => .bad
def kRng1 : List D → Option (List D)
  | [.int j] => bif smallI j then some (rngL 0 j.toNat) else none
  | _ => none
def kRng2 : List D → Option (List D)
  | [.int i, .int j] => bif smallI i && smallI j then some (rngL i (j - i).toNat) else none
  | _ => none
def kEnum : List D → Option (List D)
  | [.tup l] => some (enumL 0 l)
  | _ => none
def kZip : List D → Option (List D)
  | [.tup l, .tup m] => some (zipL l m)
  | _ => none
theorem go_iOf {k : List D → Option (List D)} {σ : L2.St} {H : Hp} {R : It → Hp → Prop} (h : tI (pg X) w.W w.xm (iOf k fs) σ H R) :
    tA (pg X) w.W w.xm fs σ H fun x H1 => ∃ B L ρ S d l, RVs X.K B ρ H1 d x ∧ k d = some l ∧ RH (pg X) B L ρ H1 S ∧ ∀ J, rJ (pg X) B L ρ H1 l J → R J H1 := by
  obtain ⟨B, L, ρ, S, env, A, g⟩ := h
  refine tA_mono (tA_bindL (rel := rJ (pg X)) A g) fun x H1 ⟨B, L, ρ, S, d, A, r, g⟩ => ?_
  cases e : k d with
  | none => rw [e] at g; exact g.elim
  | some l => rw [e] at g; exact ⟨B, L, ρ, S, d, l, r, e, A.rh, fun J hJ => g J ρ H1 Post.refl A.rh hJ⟩
theorem si_range1 (ha : SA X w [e] fs) (hg : Gl X "range") (hm : X.mg "range" = none) (hs : starEach [e] X.env = [(false, eval e X.env)] := by rfl) : SI X w tg (.Call (.Name "range" p) [e] [] pos) (iOf kRng1 fs) :=
  PI.imp (pi_range1 hg hm ha hs) fun σ H R h => tA_mono (go_iOf h) fun x H1 ⟨B, L, ρ, S, d, l, r, hk, hR, q⟩ => by
    match d, r, hk with
    | [.int j], .cons (.int _) .nil, hk =>
      unfold kRng1 at hk
      simp only at hk
      cases hs : smallI j with
      | false => rw [hs] at hk; cases hk
      | true =>
        rw [hs] at hk; cases hk
        obtain ⟨h1, h2⟩ := smallI_ok hs
        exact ⟨j, rfl, h1, h2, q _ ⟨_, walk_rng, trivial⟩⟩
theorem si_range2 {b : Expr} (ha : SA X w [e, b] fs) (hg : Gl X "range") (hm : X.mg "range" = none) (hs : starEach [e, b] X.env = [(false, eval e X.env), (false, eval b X.env)] := by rfl) (hs2 : starEach [b] X.env = [(false, eval b X.env)] := by rfl) : SI X w tg (.Call (.Name "range" p) [e, b] [] pos) (iOf kRng2 fs) :=
  PI.imp (pi_range2 hg hm ha hs hs2) fun σ H R h => tA_mono (go_iOf h) fun x H1 ⟨B, L, ρ, S, d, l, r, hk, hR, q⟩ => by
    match d, r, hk with
    | [.int i, .int j], .cons (.int _) (.cons (.int _) .nil), hk =>
      unfold kRng2 at hk
      simp only at hk
      cases hs : smallI i && smallI j with
      | false => rw [hs] at hk; cases hk
      | true =>
        rw [hs] at hk; cases hk
        rw [Bool.and_eq_true] at hs
        obtain ⟨h1, h2⟩ := smallI_ok hs.1
        obtain ⟨h3, h4⟩ := smallI_ok hs.2
        exact ⟨i, j, rfl, ⟨h1, h2, h3, h4⟩, q _ ⟨_, walk_rng, trivial⟩⟩
theorem si_enum (ha : SA X w [e] fs) (hg : Gl X "enumerate") (hm : X.mg "enumerate" = none) (hs : starEach [e] X.env = [(false, eval e X.env)] := by rfl) : SI X w (.Tuple elts kk tpos) (.Call (.Name "enumerate" p) [e] [] pos) (iOf kEnum fs) :=
  PI.imp (pi_enumT hg hm ha hs) fun σ H R h => tA_mono (go_iOf h) fun x H1 ⟨B, L, ρ, S, d, l, r, hk, hR, q⟩ => by
    match d, r, hk with
    | [.tup l], .cons (.tup h r) .nil, hk => cases hk; exact ⟨_, _, rfl, h.sq, q _ ⟨_, walk_enum, h, r⟩⟩
theorem si_zip (ha : SA X w [e, e2] fs) (hg : Gl X "zip") (hm : X.mg "zip" = none) (hs : starEach [e, e2] X.env = (false, eval e X.env) :: starEach [e2] X.env := by rfl) (hpl : (backTo pos (starEach [e2] X.env)).any (·.1) = false := by rfl) :
    SI X w (.Tuple elts kk tpos) (.Call (.Name "zip" p) [e, e2] [] pos) (iOf kZip fs) :=
  PI.imp (pi_zipA hg hm ha hs hpl) fun σ H R h => tA_mono (go_iOf h) fun x H1 ⟨B, L, ρ, S, d, l, r, hk, hR, q⟩ => by
    match d, r, hk with
    | [.tup l, .tup m], .cons (.tup h r) (.cons (.tup h' r') .nil), hk => cases hk; exact ⟨_, _, _, _, rfl, .inr ⟨h.sq, h'.sq, q _ ⟨_, walk_zip, ⟨h, r⟩, h', r'⟩⟩⟩
end

/-! ### for -/
def forL (g : D → En → Option En) (b : FS) : List D → FS
  | [] => fun env S => .nx env S
  | d :: r => fun env S => match g d env with
    | none => .bad
    | some env1 => match b env1 S with
      | .nx env' S' => forL g b r env' S'
      | .ct env' S' => forL g b r env' S'
      | .bk env' S' => .nx env' S'
      | r => r
def sFor (f : FA) (g : D → En → Option En) (b : FS) : FS := fun env S => (f env S).bindS fun l S1 => forL g b l env S1
section
variable {X : Cx} {w : Wx} {tg iter : Expr} {body : List Stmt} {fi : FA} {g : D → En → Option En} {t : TG} {is : List Nat} {f : FS} {pos : Pos}
theorem ss_for (hp : PassesOwn (model X.prog X.w) X.A X.env X.xe) (hc : X.calm = true) (hi : SI X w tg iter fi) (hg : SG X tg t g is) (hb : SSs X w body f) (hs : ∀ x, foldedSetIterable iter X.env x = pure x := by intro _; rfl) :
    SS X w (.For tg iter body [] pos) (sFor fi g f) := PS.imp (ps_for hp hc hi hg.pg hb hs) fun D σ H ⟨B, L, ρ, S, env, A, gg⟩ => by
  refine ⟨B, L, ρ, S, env, A, ?_⟩
  revert gg
  unfold sFor
  cases fi env S with
  | exc c S' => exact fun g => g σ
  | bad => exact fun g => g
  | ok l S' =>
    rintro gg J ρ1 H1 p R ⟨I, wk, i0⟩
    have g1 : GS (pg X) w.W w.xm B L ρ1 H1 (forL g f l env S') D := GS.step gg p
    refine ⟨fun i m σ H => ∃ ρ S env, At (pg X) B L ρ S env σ H ∧ I B ρ H ∧ i ≤ l.length ∧ m = l.length - i ∧ GS (pg X) w.W w.xm B L ρ H (forL g f (l.drop i) env S) D, ⟨l.length, ρ1, S', env, A.step p R, i0, Nat.zero_le _, rfl, g1⟩, ?_⟩
    rintro i m σ2 H2 ⟨ρ2, S2, env2, A2, i2, hle, rfl, g2⟩
    by_cases hlt : i < l.length
    · refine .inr ⟨wk.go B ρ2 H2 i i2 hlt, fun σ H => ∃ ρ S env, At (pg X) B L ρ S env σ H ∧ I B ρ H ∧ GS (pg X) w.W w.xm B L ρ H (forL g f (l.drop (i + 1)) env S) D, fun σ' H' ⟨ρ, S, env, A, i', g'⟩ => ⟨l.length - (i + 1), by omega, ρ, S, env, A, i', hlt, rfl, g'⟩, ?_⟩
      intro x H3 y
      obtain ⟨p3, R3, r3⟩ := wk.yld B ρ2 S2 H2 H3 i l[i] x i2 A2.rh (List.getElem?_eq_getElem hlt) y
      rw [List.drop_eq_getElem_cons hlt] at g2
      unfold forL at g2
      cases hu : g l[i] env2 with
      | none => rw [hu] at g2; exact g2.elim
      | some env3 =>
        rw [hu] at g2
        refine hg.ok B L ρ2 H3 l[i] x env2 env3 σ2 _ r3 (A2.re.mono p3) hu fun σ3 re3 _ => ?_
        refine ⟨B, L, ρ2, S2, env3, ⟨R3, re3⟩, ?_⟩
        have g3 := GS.step g2 p3
        have i3 := wk.mono B ρ2 ρ2 H2 H3 p3 i2
        revert g3
        simp only
        cases f env3 S2 with
        | nx env' S' => exact fun g σ' ρ' H' p R re => ⟨ρ', S', env', ⟨R, re⟩, wk.mono B ρ2 ρ' H3 H' p i3, GS.step g p⟩
        | ct env' S' => exact fun g σ' ρ' H' p R re => ⟨ρ', S', env', ⟨R, re⟩, wk.mono B ρ2 ρ' H3 H' p i3, GS.step g p⟩
        | bk e S' => exact fun g => g
        | rt e S' => exact fun g => g
        | xc c S' => exact fun g => g
        | bad => exact fun g => g
    · have hi : i = l.length := by omega
      subst hi
      rw [List.drop_length] at g2
      exact .inl ⟨wk.stop B ρ2 H2 i2, GS.nx0 g2 A2.rh A2.re⟩
end

/-! ### comprehensions -/
def compL (g : D → En → Option En) (t : FT) (e : FE) (env : En) : List D → Sto → Out (List D)
  | [], S => .ok [] S
  | d :: r, S => match g d env with
    | none => .bad
    | some env1 => match t env1 S with
      | .ok true S1 => match e env1 S1 with
        | .ok x S2 => match compL g t e env r S2 with
          | .ok xs S3 => .ok (x :: xs) S3
          | _ => .bad
        | _ => .bad
      | .ok false S1 => compL g t e env r S1
      | _ => .bad
def tYesF : FT := fun _ S => .ok true S
/-- the list that stands at last: a value, or an object of the store -/
def fComp (m : Bool) (f : FA) (g : D → En → Option En) (t : FT) (e : FE) (vs : List Nat) : FE := fun env S => (f env S).bind fun l S1 => bif fit l.length then
  (match compL g t e (undE env vs) l S1 with
  | .ok xs S2 => bif m then .ok (.loc S2.length) (S2 ++ [.lst xs]) else .ok (.lst xs) S2
  | _ => .bad) else .bad
theorem RO.re {G : Pg} {B1 ρ1 B2 ρ2 L : List Addr} {H : Hp} (hB : ∀ a, a ∈ B2 ∨ a ∈ ρ2 → a ∈ B1 ∨ a ∈ ρ1) (hp : ∀ (n : Nat) (a : Addr), ρ1[n]? = some a → ρ2[n]? = some a) {a : Addr} {o : Ob} (h : RO G B1 L ρ1 H a o) : RO G B2 L ρ2 H a o := by
  cases o with
  | lst ds => obtain ⟨vs, e, r⟩ := h; exact ⟨vs, e, r.re hB hp⟩
  | dct lk kvs =>
    obtain ⟨ents, e, r⟩ := h
    refine ⟨ents, e, ?_⟩
    clear e; induction r with
    | nil => exact .nil
    | cons h1 h2 h3 h4 _ ih => exact .cons h1 (h2.re hB hp) h3 (h4.re hB hp) ih
  | dki lk kvs =>
    obtain ⟨ents, e, r⟩ := h
    refine ⟨ents, e, ?_⟩
    clear e; induction r with
    | nil => exact .nil
    | cons h4 _ ih => exact .cons (h4.re hB hp) ih
  | ins fs =>
    obtain ⟨C, d, ents, hb, e, r⟩ := h
    refine ⟨C, d, ents, hb, e, ?_⟩
    clear e; induction r with
    | nil => exact .nil
    | cons h4 _ ih => exact .cons (h4.re hB hp) ih
/-- an address that is avoided is written: the object stays -/
theorem RO.av {G : Pg} {B ρ L : List Addr} {H : Hp} {p : Addr} {u : HO} (hp : p ∈ B) {a : Addr} {o : Ob} (hne : a ≠ p) (h : RO G B L ρ H a o) : RO G B L ρ (upd H p u) a o := by
  cases o with
  | lst ds => obtain ⟨vs, e, r⟩ := h; exact ⟨vs, by rw [upd_ne hne]; exact e, r.av hp⟩
  | dct lk kvs =>
    obtain ⟨ents, e, r⟩ := h
    refine ⟨ents, by unfold LkAt at e ⊢; rw [upd_ne hne]; exact e, ?_⟩
    clear e; induction r with
    | nil => exact .nil
    | cons h1 h2 h3 h4 _ ih => exact .cons h1 (h2.av hp) h3 (h4.av hp) ih
  | dki lk kvs =>
    obtain ⟨ents, e, r⟩ := h
    refine ⟨ents, by unfold LkAt at e ⊢; rw [upd_ne hne]; exact e, ?_⟩
    clear e; induction r with
    | nil => exact .nil
    | cons h4 _ ih => exact .cons (h4.av hp) ih
  | ins fs =>
    obtain ⟨C, d, ents, hb, e, r⟩ := h
    refine ⟨C, d, ents, hb, by rw [upd_ne hne]; exact e, ?_⟩
    clear e; induction r with
    | nil => exact .nil
    | cons h4 _ ih => exact .cons (h4.av hp) ih
theorem RH.av {G : Pg} {B ρ L : List Addr} {H : Hp} {S : Sto} {p : Addr} {u : HO} (R : RH G B L ρ H S) (hp : p ∈ B) (hl : p ∉ L) : RH G B L ρ (upd H p u) S where
  len := R.len
  nd := R.nd
  dj := R.dj
  avo := fun b hb => by
    by_cases e : b = p
    · subst e; exact ⟨_, upd_same⟩
    · obtain ⟨u, q⟩ := R.avo b hb; exact ⟨u, by rw [upd_ne e]; exact q⟩
  lk := fun b hb => by
    obtain ⟨o, u, q⟩ := R.lk b hb
    exact ⟨o, u, by rw [upd_ne (by rintro rfl; exact hl hb)]; exact q⟩
  ob := fun n a o h1 h2 => (R.ob n a o h1 h2).av hp (by rintro rfl; exact R.dj _ (List.mem_of_getElem? h1) hp)
theorem RH.reB {G : Pg} {B B' ρ L : List Addr} {H : Hp} {S : Sto} (R : RH G B L ρ H S) (h : ∀ a, a ∈ B' → a ∈ B) : RH G B' L ρ H S where
  len := R.len
  nd := R.nd
  dj := fun a ha z => R.dj a ha (h a z)
  avo := fun b hb => R.avo b (h b hb)
  lk := R.lk
  ob := fun n a o h1 h2 => (R.ob n a o h1 h2).re (fun a z => z.imp (h a) id) fun _ _ z => z
/-- a list that was avoided comes into the store -/
theorem RH.addL {G : Pg} {B ρ L : List Addr} {H : Hp} {S : Sto} {p : Addr} {xs : List D} {vs : List V} (R : RH G (p :: B) L ρ H S) (hb : p ∉ B) (e : H p = some (.lst vs)) (r : RVs G.K (p :: B) ρ H xs vs) : RH G B L (ρ ++ [p]) H (S ++ [.lst xs]) := by
  have hB : ∀ a, a ∈ B ∨ a ∈ ρ ++ [p] → a ∈ p :: B ∨ a ∈ ρ := fun a z => z.elim (fun z => .inl (List.mem_cons_of_mem _ z)) fun z => (List.mem_append.mp z).elim .inr fun z => .inl (by simp at z; rw [z]; exact List.mem_cons_self)
  have hp : ∀ (n : Nat) (a : Addr), ρ[n]? = some a → (ρ ++ [p])[n]? = some a := fun n a z => by rw [List.getElem?_append_left (List.getElem?_eq_some_iff.mp z).1]; exact z
  refine ⟨by simp [R.len], ?_, fun a ha => (List.mem_append.mp ha).elim (fun z q => R.dj a z (List.mem_cons_of_mem _ q)) fun z => by simp at z; rw [z]; exact hb, fun b hb => R.avo b (List.mem_cons_of_mem _ hb), R.lk, fun n a o h1 h2 => ?_⟩
  · rw [List.nodup_append]
    refine ⟨R.nd, by simp, fun a ha b hb => ?_⟩
    simp at hb; subst hb
    rintro rfl
    exact R.dj _ ha List.mem_cons_self
  · by_cases hn : n < ρ.length
    · rw [List.getElem?_append_left hn] at h1
      rw [List.getElem?_append_left (by rw [← R.len]; exact hn)] at h2
      exact (R.ob n a o h1 h2).re hB hp
    · have hn' : n = ρ.length := by
        have := (List.getElem?_eq_some_iff.mp h1).1
        simp at this; omega
      subst hn'
      rw [List.getElem?_append_right (Nat.le_refl _)] at h1
      rw [R.len, List.getElem?_append_right (Nat.le_refl _)] at h2
      simp at h1 h2
      subst h1; subst h2
      exact ⟨vs, e, r.re hB hp⟩
theorem RH.addB {G : Pg} {B ρ L : List Addr} {H : Hp} {S : Sto} {p : Addr} {u : HO} (R : RH G B L ρ H S) (hn : H p = none) : RH G (p :: B) L ρ (upd H p u) S := by
  have q := R.newV (o := u) hn
  refine ⟨q.len, q.nd, fun a ha z => (List.mem_cons.mp z).elim (fun z => (R.fresh hn).1 (z ▸ ha)) (q.dj a ha), fun b hb => (List.mem_cons.mp hb).elim (fun z => ⟨u, by subst z; exact upd_same⟩) (q.avo b), q.lk, fun n a o h1 h2 => ?_⟩
  have q1 := R.ob n a o h1 h2
  obtain ⟨u, hu⟩ := R.there h1
  have hne : a ≠ p := ne_of_none hu hn
  cases o with
  | lst ds => obtain ⟨vs, e, r⟩ := q1; exact ⟨vs, by rw [upd_ne hne]; exact e, r.addB hn⟩
  | dct lk kvs =>
    obtain ⟨ents, e, r⟩ := q1
    refine ⟨ents, by unfold LkAt at e ⊢; rw [upd_ne hne]; exact e, ?_⟩
    clear e h2; induction r with
    | nil => exact .nil
    | cons h1 h2 h3 h4 _ ih => exact .cons h1 (h2.addB hn) h3 (h4.addB hn) ih
  | dki lk kvs =>
    obtain ⟨ents, e, r⟩ := q1
    refine ⟨ents, by unfold LkAt at e ⊢; rw [upd_ne hne]; exact e, ?_⟩
    clear e h2; induction r with
    | nil => exact .nil
    | cons h4 _ ih => exact .cons (h4.addB hn) ih
  | ins fs =>
    obtain ⟨C, d, ents, hb, e, r⟩ := q1
    refine ⟨C, d, ents, hb, by rw [upd_ne hne]; exact e, ?_⟩
    clear e h2; induction r with
    | nil => exact .nil
    | cons h4 _ ih => exact .cons (h4.addB hn) ih
theorem RE.av {K : PySem.W.Frag} {B ρ : List Addr} {H : Hp} {env : En} {σ : L2.St} {p : Addr} {o : HO} (h : RE K B ρ H env σ) (hp : p ∈ B) : RE K B ρ (upd H p o) env σ :=
  ⟨h.len, fun i d e => (h.at' i d e).imp id fun ⟨v, e1, r⟩ => ⟨v, e1, r.av hp⟩⟩
theorem RE.addB {K : PySem.W.Frag} {B ρ : List Addr} {H : Hp} {env : En} {σ : L2.St} {p : Addr} {o : HO} (h : RE K B ρ H env σ) (hn : H p = none) : RE K (p :: B) ρ (upd H p o) env σ :=
  ⟨h.len, fun i d e => (h.at' i d e).imp id fun ⟨v, e1, r⟩ => ⟨v, e1, r.addB hn⟩⟩
def W0 : WX := fun _ _ _ _ => False
section
variable {X : Cx} {w : Wx} {tg iter elt : Expr} {ifs : List Expr} {fi : FA} {g : D → En → Option En} {t : TG} {is : List Nat} {ft : FT} {fe : FE} {pos : Pos}
theorem wipe_idem {σ : L2.St} : ∀ vs : List Nat, wipe (wipe σ vs) vs = wipe σ vs := by
  intro vs
  apply List.ext_getElem?
  intro i
  by_cases hi : i ∈ vs
  · have key : ∀ (σ : L2.St) (vs : List Nat), i ∈ vs → i < σ.length → (wipe σ vs)[i]? = some none := by
      intro σ vs
      induction vs with
      | nil => intro h; exact nomatch h
      | cons a vs ih =>
        intro h hl
        unfold L2.wipe
        by_cases ha : a = i
        · subst ha; rw [List.getElem?_set_self (by rw [wipe_length]; exact hl)]
        · rw [List.getElem?_set_ne ha]
          exact ih ((List.mem_cons.mp h).resolve_left (Ne.symm ha)) hl
    by_cases hl : i < σ.length
    · rw [key _ vs hi (by rw [wipe_length]; exact hl), key σ vs hi hl]
    · rw [List.getElem?_eq_none (by rw [wipe_length, wipe_length]; omega), List.getElem?_eq_none (by rw [wipe_length]; omega)]
  · rw [wipe_out hi, wipe_out hi]
abbrev SPT (X : Cx) (w : Wx) (ifs : List Expr) (f : FT) : Prop := PTs X ifs (tT (pg X) w.W w.xm f)
theorem spt_nil : SPT X w [] tYesF := ⟨fun pins s σ H Q I ⟨B, L, ρ, S, env, A, g⟩ => pts_nil.run pins s σ H Q I (g true ρ H Post.refl A.rh rfl)⟩
theorem spt_one {c : Expr} (h : ST X w c ft) : SPT X w [c] ft := pts_one h
/-- the reading of a comprehension -/
theorem comp_ok {m : Bool} {vs : List Nat} (hg : TgOk X.K t g is) (hv : ∀ i ∈ is, i ∈ vs) {σ : L2.St} {H : Hp} {Q : VK} (h : tE (pg X) w.W w.xm (fComp m fi g ft fe vs) σ H Q) :
    tLc (tI (pg X) w.W w.xm fi) t (tT (pg X) W0 w.xm ft) (tE (pg X) W0 w.xm fe) vs σ H Q := by
  obtain ⟨B, L, ρ, S, env, A, gg⟩ := h
  refine ⟨B, L, ρ, S, env, A, ?_⟩
  revert gg
  unfold fComp
  cases fi env S with
  | exc c S' => exact fun g => g
  | bad => exact fun g => g
  | ok l S' =>
    rintro gg J ρ1 H1 p R ⟨I, wk, i0⟩ D hD
    have g1 := GO.step gg p
    revert g1
    show GO (pg X) w.W w.xm B L ρ1 H1 σ (rD (pg X) B) (bif fit l.length then
      (match compL g ft fe (undE env vs) l S' with
      | .ok xs S2 => bif m then Out.ok (.loc S2.length) (S2 ++ [.lst xs]) else .ok (.lst xs) S2
      | _ => .bad) else .bad) Q → _
    cases hfit : fit l.length with
    | false => exact fun g => g.elim
    | true =>
    intro g1
    have A1 := A.step p R
    cases hc : compL g ft fe (undE env vs) l S' with
    | exc c S2 => rw [hc] at g1; exact g1.elim
    | bad => rw [hc] at g1; exact g1.elim
    | ok xs S2 =>
    have g2 : GO (pg X) w.W w.xm B L ρ1 H1 σ (rD (pg X) B) (bif m then Out.ok (.loc S2.length) (S2 ++ [.lst xs]) else .ok (.lst xs) S2) Q := by
      rw [hc] at g1; exact g1
    have hDB : D ∉ B := (R.fresh hD).2
    have hDL : D ∉ L := fun z => by obtain ⟨o, u, q⟩ := R.lk D z; rw [hD] at q; cases q
    refine ⟨fun i m H => ∃ ρ S acc accD ys, RH (pg X) (D :: B) L ρ H S ∧ RE X.K (D :: B) ρ H (undE env vs) (wipe σ vs) ∧ I (D :: B) ρ H ∧ H D = some (.lst acc) ∧ RVs X.K (D :: B) ρ H accD acc ∧ accD.length ≤ i ∧ i ≤ l.length ∧ m = l.length - i ∧
      Post L ρ1 H1 ρ H ∧ compL g ft fe (undE env vs) (l.drop i) S = .ok ys S2 ∧ accD ++ ys = xs,
      ⟨l.length, ρ1, S', [], [], xs, R.addB hD, (A1.re.wipe vs).addB hD, wk.addB _ _ _ _ _ hD i0, upd_same, .nil, Nat.zero_le _, Nat.zero_le _, rfl, Post.newV hD, hc, rfl⟩, ?_⟩
    rintro i k H ⟨ρ, S, acc, accD, ys, RH1, re1, i1, hDa, ra, hai, hil, rfl, ps, hcl, hxs⟩
    by_cases hlt : i < l.length
    · refine .inr ⟨wk.go _ ρ H i i1 hlt, fun H => ∃ ρ S acc accD ys, RH (pg X) (D :: B) L ρ H S ∧ RE X.K (D :: B) ρ H (undE env vs) (wipe σ vs) ∧ I (D :: B) ρ H ∧ H D = some (.lst acc) ∧ RVs X.K (D :: B) ρ H accD acc ∧ accD.length ≤ i + 1 ∧
          Post L ρ1 H1 ρ H ∧ compL g ft fe (undE env vs) (l.drop (i + 1)) S = .ok ys S2 ∧ accD ++ ys = xs,
        fun H' ⟨ρ, S, acc, accD, ys, h1, h2, h3, h4, h5, h6, h7, h8, h9⟩ => ⟨l.length - (i + 1), by omega, ρ, S, acc, accD, ys, h1, h2, h3, h4, h5, h6, hlt, rfl, h7, h8, h9⟩, ?_⟩
      intro x H3 y
      obtain ⟨p3, R3, r3⟩ := wk.yld _ ρ S H H3 i l[i] x i1 RH1 (List.getElem?_eq_getElem hlt) y
      rw [List.drop_eq_getElem_cons hlt] at hcl
      unfold compL at hcl
      cases hu : g l[i] (undE env vs) with
      | none => rw [hu] at hcl; cases hcl
      | some env1 =>
        rw [hu] at hcl
        simp only at hcl
        refine hg (D :: B) L ρ H3 l[i] x (undE env vs) env1 (wipe σ vs) _ r3 (re1.mono p3) hu fun σ3 re3 hw => ⟨(hw vs hv).trans (wipe_idem vs), ?_⟩
        cases ht : ft env1 S with
        | exc c S3 => rw [ht] at hcl; cases hcl
        | bad => rw [ht] at hcl; cases hcl
        | ok b S3 =>
          rw [ht] at hcl
          refine ⟨D :: B, L, ρ, S, env1, ⟨R3, re3⟩, ?_⟩
          rw [ht]
          intro b' ρ4 H4 p4 R4 hb
          have hb : b = b' := hb
          subst hb
          have hDρ : D ∉ ρ := fun z => RH1.dj D z List.mem_cons_self
          have e4 : H4 D = some (.lst acc) := p4.ext D _ (.inl hDρ) (p3.ext D _ (.inl hDρ) hDa)
          cases b with
          | false =>
            refine iteF ?_
            simp only at hcl
            exact ⟨ρ4, S3, acc, accD, ys, R4, (re1.mono p3).mono p4, wk.mono _ _ _ _ _ p4 (wk.mono _ _ _ _ _ p3 i1), e4, RVs.mono p4 _ _ (RVs.mono p3 _ _ ra), Nat.le_succ_of_le hai, ps.trans (p3.trans p4), hcl, hxs⟩
          | true =>
            refine iteT ?_
            simp only at hcl
            cases he : fe env1 S3 with
            | exc c S5 => rw [he] at hcl; cases hcl
            | bad => rw [he] at hcl; cases hcl
            | ok z S5 =>
              rw [he] at hcl
              simp only at hcl
              cases hcr : compL g ft fe (undE env vs) (l.drop (i + 1)) S5 with
              | exc c S6 => rw [hcr] at hcl; cases hcl
              | bad => rw [hcr] at hcl; cases hcl
              | ok zs S6 =>
                rw [hcr] at hcl
                cases hcl
                refine ⟨D :: B, L, ρ4, S3, env1, ⟨R4, re3.mono p4⟩, ?_⟩
                rw [he]
                intro y5 ρ5 H5 p5 R5 r5
                have hD4 : D ∉ ρ4 := fun z => R4.dj D z List.mem_cons_self
                have e5 : H5 D = some (.lst acc) := p5.ext D _ (.inl hD4) e4
                have ps5 : Post L ρ1 H1 ρ5 H5 := ps.trans (p3.trans (p4.trans p5))
                refine ⟨acc, e5, ?_, ρ5, S5, acc ++ [y5], accD ++ [z], zs, R5.av List.mem_cons_self hDL, (((re1.mono p3).mono p4).mono p5).av List.mem_cons_self, wk.av _ _ _ _ _ List.mem_cons_self (wk.mono _ _ _ _ _ p5 (wk.mono _ _ _ _ _ p4 (wk.mono _ _ _ _ _ p3 i1))), upd_same,
                  ((RVs.mono p5 _ _ (RVs.mono p4 _ _ (RVs.mono p3 _ _ ra))).append (.cons r5 .nil)).av List.mem_cons_self, by simp; omega, ⟨fun a u ha hu => ?_, ps5.pre, ps5.new⟩, hcr, by rw [← hxs]; simp⟩
                · rw [← ra.length]
                  have := fit_le hfit
                  omega
                · rw [upd_ne (ne_of_none hu hD)]
                  exact ps5.ext a u ha hu
    · have hi : i = l.length := by omega
      subst hi
      refine .inl ⟨wk.stop _ ρ H i1, ?_⟩
      rw [List.drop_length] at hcl
      cases hcl
      rw [List.append_nil] at hxs
      subst hxs
      have hDρ : D ∉ ρ := fun z => RH1.dj D z List.mem_cons_self
      cases m with
      | false => exact g2 (.ref D) ρ H ps (RH1.reB fun a z => List.mem_cons_of_mem _ z) (.lst hDB hDρ hDa (ra.re (fun a z => z.imp (List.mem_cons_of_mem _) id) fun _ _ z => z))
      | true =>
        refine g2 (.ref D) (ρ ++ [D]) H ⟨ps.ext, ?_, fun a z => (List.mem_append.mp z).elim (ps.new a) fun z => ?_⟩ (RH1.addL hDB hDa ra) (.loc ?_)
        · obtain ⟨tt, e⟩ := ps.pre; exact ⟨tt ++ [D], by rw [e, List.append_assoc]⟩
        · simp at z; rw [z]; exact .inr hD
        · rw [← RH1.len, List.getElem?_append_right (Nat.le_refl _)]; simp
end
end Sf
end

section
set_option Elab.async false
set_option maxRecDepth 100000
set_option linter.all false
/-! Sf7: comprehensions as values, functions, calls. -/
namespace Sf
open PySem PySem.Spec PyProof.Rows L2 RZ

/-- within a comprehension's block no exception leaves -/
abbrev wB (w : Wx) : Wx := ⟨W0, w.xm⟩
section
variable {X : Cx} {w : Wx} {tg iter elt : Expr} {ifs : List Expr} {fi : FA} {g : D → En → Option En} {t : TG} {is : List Nat} {ft : FT} {fe : FE} {pos : Pos} {scope : Scope} {own : List (Str × Nat)}
theorem se_lc {m : Bool} (hc : X.calm = true) (hN : X.N.Nodup) (ok : BlkOk X.N X.env.scope scope own) (hv : ∀ i ∈ is, i ∈ own.map (·.2)) (hi : SI X w tg iter fi)
    (hg : ∀ (s : Shared) (H : Hp) (C : Addr) (cl : List (Str × Addr)) (fp : List Addr), PG (X.blk s H scope (compEnvC scope cl C X.env) fp) tg t) (hk : TgOk X.K t g is)
    (ht : ∀ (s : Shared) (H : Hp) (C : Addr) (cl : List (Str × Addr)) (fp : List Addr), SPT (X.blk s H scope (compEnvC scope cl C X.env) fp) (wB w) ifs ft)
    (he : ∀ (s : Shared) (H : Hp) (C : Addr) (cl : List (Str × Addr)) (fp : List Addr), SE (X.blk s H scope (compEnvC scope cl C X.env) fp) (wB w) elt fe) (hs : ∀ x, foldedSetIterable iter X.env x = pure x := by intro _; rfl) :
    SE X w (.ListComp elt [⟨tg, iter, ifs, 0⟩] scope pos) (fComp m fi g ft fe (own.map (·.2))) :=
  PE.imp (pe_lc hc hN hi ok hg ht he hs) fun σ H Q h =>
    comp_ok (X := X) (w := w) (is := is) hk hv h
theorem ss_setLc {m : Bool} {i : Nat} {y : Str} {py spos : Pos} (hc : X.calm = true) (hN : X.N.Nodup) (hy : X.N[i]? = some y) (hyl : X.env.scope.names.lookup y = some .local) (hsw : swapsWith (.ListComp elt [⟨tg, iter, ifs, 0⟩] scope pos) (some (.Name y py)) spos.line X.env = pure true)
    (ok : BlkOk X.N X.env.scope scope own) (hv : ∀ i ∈ is, i ∈ own.map (·.2)) (hi : SI X w tg iter fi)
    (hg : ∀ (s : Shared) (H : Hp) (C : Addr) (cl : List (Str × Addr)) (fp : List Addr), PG (X.blk s H scope (compEnvC scope cl C X.env) fp) tg t) (hk : TgOk X.K t g is)
    (ht : ∀ (s : Shared) (H : Hp) (C : Addr) (cl : List (Str × Addr)) (fp : List Addr), SPT (X.blk s H scope (compEnvC scope cl C X.env) fp) (wB w) ifs ft)
    (he : ∀ (s : Shared) (H : Hp) (C : Addr) (cl : List (Str × Addr)) (fp : List Addr), SE (X.blk s H scope (compEnvC scope cl C X.env) fp) (wB w) elt fe) (hs : ∀ x, foldedSetIterable iter X.env x = pure x := by intro _; rfl) :
    SS X w (.Assign [.Name y py] (.ListComp elt [⟨tg, iter, ifs, 0⟩] scope pos) spos) (sAsg i (fComp m fi g ft fe (own.map (·.2)))) :=
  ss_set' (ps_setLc hc hN hy hyl hsw hi ok hg ht he hs) fun σ H Q h =>
    comp_ok (X := X) (w := w) (is := is) hk hv h
end

/-! ### functions -/
abbrev Fn := List D → Sto → Out D
mutual
/-- all places below n -/
def lowD (n : Nat) : D → Bool
  | .tup l => lowL n l
  | .lst l => lowL n l
  | .scr l => lowL n l
  | .loc k => Nat.blt k n
  | _ => true
def lowL (n : Nat) : List D → Bool
  | [] => true
  | d :: r => lowD n d && lowL n r
end
def lowO (n : Nat) : Ob → Bool
  | .lst l => lowL n l
  | .dct _ kvs => kvs.all fun p => lowD n p.1 && lowD n p.2
  | .dki _ kvs => kvs.all fun p => lowD n p.2
  | .ins fs => fs.all fun p => lowD n p.2
def mapO (f : D → Option D) : List D → Option (List D)
  | [] => some []
  | d :: r => match f d, mapO f r with
    | some x, some xs => some (x :: xs)
    | _, _ => none
/-- the new lists as values -/
def frzD : Nat → Sto → Nat → D → Option D
  | 0, _, _, _ => none
  | k + 1, S, n, d => match d with
    | .tup l => (mapO (frzD k S n) l).map .tup
    | .lst l => (mapO (frzD k S n) l).map .lst
    | .scr l => (mapO (frzD k S n) l).map .scr
    | .loc i => bif Nat.blt i n then some (.loc i) else match S[i]? with
      | some (.lst l) => (mapO (frzD k S n) l).map .lst
      | _ => none
    | d => some d
def endF (n : Nat) (d : D) (S : Sto) : Out D := bif Nat.beq S.length n then .ok d S else match frzD 9 S n d with
  | some d' => bif (S.take n).all (lowO n) then .ok d' (S.take n) else .bad
  | none => .bad
/-- one new object is handed out -/
def endM (n : Nat) (d : D) (S : Sto) : Out D := match d with
  | .loc i => bif Nat.ble n i then match S[i]? with
    | some o => bif (S.take n).all (lowO n) && lowO n o then .ok (.loc n) (S.take n ++ [o]) else .bad
    | none => .bad else .bad
  | _ => .bad
def endX (n : Nat) (c : Nat) (S : Sto) : Out D := bif Nat.beq S.length n then .exc c S else bif (S.take n).all (lowO n) then .exc c (S.take n) else .bad
def fnEnd (m : Bool) (n : Nat) : SR → Out D
  | .rt d S => bif m then endM n d S else endF n d S
  | .nx _ S => endF n .non S
  | .xc c S => endX n c S
  | _ => .bad
def fn (m : Bool) (N : Nat) (b : FS) : Fn := fun ds S => fnEnd m S.length (b (ds ++ List.replicate (N - ds.length) .und) S)
section
variable {G : Pg} {B L ρ ρ' : List Addr} {H : Hp} {S : Sto}
theorem RV.low {K : PySem.W.Frag} {n : Nat} (hρ : ∀ a, a ∈ ρ' → a ∈ ρ) (hp : ∀ (i : Nat) (a : Addr), i < n → ρ[i]? = some a → ρ'[i]? = some a) : ∀ {d : D} {v : V}, RV K B ρ H d v → lowD n d = true → RV K B ρ' H d v := by
  intro d v h
  refine RV.rec (motive_1 := fun d v _ => lowD n d = true → RV K B ρ' H d v) (motive_2 := fun ds vs _ => lowL n ds = true → RVs K B ρ' H ds vs) (fun _ => .non) (fun b _ => .bl b) (fun i _ => .int i) (fun x _ => .str x) (fun h _ ih e => ?_) (fun h1 h2 h3 _ ih e => ?_) (fun h _ ih e => ?_) (fun h e => ?_) (fun h _ => .glob h) (fun _ => .nil) (fun _ _ ih1 ih2 e => ?_) h
  · exact .tup ⟨h.1, fun z => h.2.1 (hρ _ z), h.2.2⟩ (ih e)
  · exact .lst h1 (fun z => h2 (hρ _ z)) h3 (ih e)
  · exact .scr (h.imp (fun h => ⟨h.1, fun z => h.2.1 (hρ _ z), h.2.2⟩) id) (ih e)
  · exact .loc (hp _ _ (Nat.le_of_ble_eq_true e) h)
  · unfold lowL at e
    rw [Bool.and_eq_true] at e
    exact .cons (ih1 e.1) (ih2 e.2)
theorem RVs.low {K : PySem.W.Frag} {n : Nat} (hρ : ∀ a, a ∈ ρ' → a ∈ ρ) (hp : ∀ (i : Nat) (a : Addr), i < n → ρ[i]? = some a → ρ'[i]? = some a) : ∀ {ds : List D} {vs : List V}, RVs K B ρ H ds vs → lowL n ds = true → RVs K B ρ' H ds vs
  | _, _, .nil, _ => .nil
  | _, _, .cons h t, e => by
    unfold lowL at e
    rw [Bool.and_eq_true] at e
    exact .cons (h.low hρ hp e.1) (RVs.low hρ hp t e.2)
theorem RO.low {n : Nat} (hρ : ∀ a, a ∈ ρ' → a ∈ ρ) (hp : ∀ (i : Nat) (a : Addr), i < n → ρ[i]? = some a → ρ'[i]? = some a) {a : Addr} {o : Ob} (h : RO G B L ρ H a o) (e : lowO n o = true) : RO G B L ρ' H a o := by
  cases o with
  | lst ds => obtain ⟨vs, q, r⟩ := h; exact ⟨vs, q, r.low hρ hp e⟩
  | dct lk kvs =>
    obtain ⟨ents, q, r⟩ := h
    refine ⟨ents, q, ?_⟩
    have e := show List.all _ _ = true from e
    clear q; induction r with
    | nil => exact .nil
    | cons h1 h2 h3 h4 _ ih =>
      rw [List.all_cons, Bool.and_eq_true, Bool.and_eq_true] at e
      exact .cons h1 (h2.low hρ hp e.1.1) h3 (h4.low hρ hp e.1.2) (ih e.2 e.2)
  | dki lk kvs =>
    obtain ⟨ents, q, r⟩ := h
    refine ⟨ents, q, ?_⟩
    have e := show List.all _ _ = true from e
    clear q; induction r with
    | nil => exact .nil
    | cons h4 _ ih =>
      rw [List.all_cons, Bool.and_eq_true] at e
      exact .cons (h4.low hρ hp e.1) (ih e.2 e.2)
  | ins fs =>
    obtain ⟨C, d, ents, hb, q, r⟩ := h
    refine ⟨C, d, ents, hb, q, ?_⟩
    have e := show List.all _ _ = true from e
    clear q; induction r with
    | nil => exact .nil
    | cons h4 _ ih =>
      rw [List.all_cons, Bool.and_eq_true] at e
      exact .cons (h4.low hρ hp e.1) (ih e.2 e.2)
/-- the store's first part alone -/
theorem RH.cut {t : List Addr} (R : RH G B L (ρ ++ t) H S) (e : (S.take ρ.length).all (lowO ρ.length) = true) : RH G B L ρ H (S.take ρ.length) := by
  have hl := R.len
  rw [List.length_append] at hl
  refine ⟨by rw [List.length_take]; omega, (List.nodup_append.mp R.nd).1, fun a ha => R.dj a (List.mem_append_left _ ha), R.avo, R.lk, fun n a o h1 h2 => ?_⟩
  have hn : n < ρ.length := (List.getElem?_eq_some_iff.mp h1).1
  have h2' : S[n]? = some o := by rw [List.getElem?_take_of_lt hn] at h2; exact h2
  have h1' : (ρ ++ t)[n]? = some a := by rw [List.getElem?_append_left hn]; exact h1
  exact (R.ob n a o h1' h2').low (fun a z => List.mem_append_left _ z) (fun i a hi z => by rw [List.getElem?_append_left hi] at z; exact z) (List.all_eq_true.mp e o (List.mem_of_getElem? h2))
theorem Post.cut {L t : List Addr} {H' : Hp} (p : Post L ρ H (ρ ++ t) H') : Post L ρ H ρ H' := ⟨p.ext, ⟨[], by simp⟩, fun _ h => .inl h⟩
theorem mapO_ok {K : PySem.W.Frag} {f : D → Option D} (h : ∀ d d' v, RV K B ρ' H d v → f d = some d' → RV K B ρ H d' v) : ∀ {ds ds' : List D} {vs : List V}, RVs K B ρ' H ds vs → mapO f ds = some ds' → RVs K B ρ H ds' vs
  | [], _, _, .nil, e => by cases e; exact .nil
  | d :: ds, ds', _, .cons r t, e => by
    unfold mapO at e
    cases e1 : f d with
    | none => rw [e1] at e; cases e
    | some x =>
      cases e2 : mapO f ds with
      | none => rw [e1, e2] at e; cases e
      | some xs => rw [e1, e2] at e; cases e; exact .cons (h _ _ _ r e1) (mapO_ok h t e2)
theorem frz_ok {t : List Addr} (R : RH G B L (ρ ++ t) H S) : ∀ (k : Nat) (d d' : D) (v : V), RV G.K B (ρ ++ t) H d v → frzD k S ρ.length d = some d' → RV G.K B ρ H d' v := by
  intro k
  induction k with
  | zero => intro d d' v _ e; cases e
  | succ k ih =>
    intro d d' v r e
    unfold frzD at e
    have out : ∀ a, a ∉ ρ ++ t → a ∉ ρ := fun a h z => h (List.mem_append_left _ z)
    cases r with
    | non => cases e; exact .non
    | bl b => cases e; exact .bl b
    | int b => cases e; exact .int b
    | str b => cases e; exact .str b
    | glob h => cases e; exact .glob h
    | @tup a vs ds h r =>
      simp only at e
      cases q : mapO (frzD k S ρ.length) ds with
      | none => rw [q] at e; cases e
      | some xs => rw [q] at e; cases e; exact .tup ⟨h.1, out _ h.2.1, h.2.2⟩ (mapO_ok (fun d d' v r e => ih d d' v r e) r q)
    | @lst a vs ds h1 h2 h3 r =>
      simp only at e
      cases q : mapO (frzD k S ρ.length) ds with
      | none => rw [q] at e; cases e
      | some xs => rw [q] at e; cases e; exact .lst h1 (out _ h2) h3 (mapO_ok (fun d d' v r e => ih d d' v r e) r q)
    | @scr a vs ds h r =>
      simp only at e
      cases q : mapO (frzD k S ρ.length) ds with
      | none => rw [q] at e; cases e
      | some xs => rw [q] at e; cases e; exact .scr (h.imp (fun h => ⟨h.1, out _ h.2.1, h.2.2⟩) id) (mapO_ok (fun d d' v r e => ih d d' v r e) r q)
    | @loc i a h =>
      simp only at e
      cases hb : Nat.blt i ρ.length with
      | true =>
        rw [hb] at e; cases e
        have hi : i < ρ.length := Nat.le_of_ble_eq_true hb
        rw [List.getElem?_append_left hi] at h
        exact .loc h
      | false =>
        rw [hb] at e
        simp only [cond_false] at e
        have hi : ρ.length ≤ i := by
          rcases Nat.lt_or_ge i ρ.length with z | z
          · have : Nat.blt i ρ.length = true := Nat.ble_eq_true_of_le z
            rw [hb] at this; cases this
          · exact z
        cases q : S[i]? with
        | none => rw [q] at e; cases e
        | some o =>
          rw [q] at e
          cases o with
          | lst l =>
            simp only at e
            obtain ⟨vs, h1, h2⟩ := R.ob i a _ h q
            cases q2 : mapO (frzD k S ρ.length) l with
            | none => rw [q2] at e; cases e
            | some xs =>
              rw [q2] at e; cases e
              have hm : a ∈ ρ ++ t := List.mem_of_getElem? h
              have ha : a ∉ ρ := fun z => by
                obtain ⟨j, hj⟩ := List.mem_iff_getElem?.mp z
                have hjl := (List.getElem?_eq_some_iff.mp hj).1
                have : (ρ ++ t)[j]? = some a := by rw [List.getElem?_append_left hjl]; exact hj
                have := L2.nd_ix R.nd this h
                omega
              exact .lst (R.dj a hm) ha h1 (mapO_ok (fun d d' v r e => ih d d' v r e) h2 q2)
          | _ => cases e
end

/-! ### what a function's def promises -/
def spOf (G : Pg) (xm : XM) (n : Nat) (F : Fn) : Sp := fun vs H Q E => vs.length = n ∧ ∃ B L ρ S ds, RH G B L ρ H S ∧ RVs G.K B ρ H ds vs ∧
  match F ds S with
  | .ok d S' => ∀ v ρ' H', Post L ρ H ρ' H' → RH G B L ρ' H' S' → RV G.K B ρ' H' d v → Q v H'
  | .exc c S' => ∀ ρ' H', Post L ρ H ρ' H' → RH G B L ρ' H' S' → E (xm c) none H'
  | .bad => False
section
variable {P : Program} {w : World} {K : PySem.W.Frag} {mg : Str → Option Value} {base : Heap}
theorem fn_ok {x qual : Str} {st : Stmt} {f : Addr} {fd : FuncData} {N ps : List Str} {k : Nat} {m : Bool} {b : FS} (xm : XM) (F : Fun K x qual st f fd) (Sc : FnScope N ps (defScope st))
    (h : ∀ (cdv : Value) (A : Around) (outer : List PySem.Env) (s : Shared) (H : Hp) (E : XK) (W : WX), Room k (A.deeper (envOfC qual (defScope st) s.heap.objs.size f cdv)) →
      Takes (cxOf (L2.CX P w) P w K mg base N qual (defScope st) f cdv A outer s H E) W → SSs (cxOf (L2.CX P w) P w K mg base N qual (defScope st) f cdv A outer s H E) ⟨W, xm⟩ (defBody st) b) :
    FnOk P w K mg base (L2.CX P w) (k + 1) f fd ps (spOf ⟨P, w, K⟩ xm ps.length (fn m N.length b)) := by
  refine F.okX Sc (fun vs H Q E h => h.1) (fun cdv A outer s H vs Q E hr hs => ?_)
  have tk : Takes (cxOf (L2.CX P w) P w K mg base N qual (defScope st) f cdv A outer s H E) (fun cls d _ H => E cls d H) := takes_of rfl rfl rfl rfl
  refine ⟨_, h cdv A outer s H E _ hr tk, ?_⟩
  obtain ⟨hl, B, L, ρ, S, ds, R, rv, g⟩ := hs
  have hNl : ps.length ≤ N.length := by have := congrArg List.length Sc.pre; rw [List.length_take] at this; omega
  refine ⟨B, L, ρ, S, ds ++ List.replicate (N.length - ds.length) .und, ⟨R, ⟨?_, fun i d e => ?_⟩⟩, ?_⟩
  · unfold L2.start
    rw [List.length_append, List.length_append, List.length_map, List.length_replicate, List.length_replicate, rv.length]
  · by_cases hi : i < ds.length
    · rw [List.getElem?_append_left hi] at e
      obtain ⟨v, e1, r1⟩ := rv.get e
      refine .inr ⟨v, ?_, r1⟩
      unfold L2.start
      rw [List.getElem?_append_left (by rw [List.length_map, ← rv.length]; exact hi), List.getElem?_map, e1]
      rfl
    · rw [List.getElem?_append_right (by omega)] at e
      exact .inl (List.eq_of_mem_replicate (List.mem_of_getElem? e))
  · revert g
    unfold fn
    have endF_ok : ∀ {d : D} {v : V} {ρ' : List Addr} {H' : Hp} {S' : Sto}, (match endF S.length d S' with
        | .ok d S' => ∀ v ρ' H', Post L ρ H ρ' H' → RH ⟨P, w, K⟩ B L ρ' H' S' → RV K B ρ' H' d v → Q v H'
        | .exc c S' => ∀ ρ' H', Post L ρ H ρ' H' → RH ⟨P, w, K⟩ B L ρ' H' S' → E (xm c) none H'
        | .bad => False) → Post L ρ H ρ' H' → RH ⟨P, w, K⟩ B L ρ' H' S' → RV K B ρ' H' d v → Q v H' := by
      intro d v ρ' H' S' g p R' r'
      unfold endF at g
      cases hb : Nat.beq S'.length S.length with
      | true => rw [hb] at g; exact g v ρ' H' p R' r'
      | false =>
        rw [hb] at g
        simp only [cond_false] at g
        obtain ⟨t, rfl⟩ := p.pre
        cases hf : frzD 9 S' S.length d with
        | none => rw [hf] at g; exact g.elim
        | some d' =>
          rw [hf] at g
          simp only at g
          cases hl : (S'.take S.length).all (lowO S.length) with
          | false => rw [hl] at g; exact g.elim
          | true =>
            rw [hl] at g
            rw [← R.len] at hf hl g
            exact g v ρ H' p.cut (R'.cut hl) (frz_ok R' 9 d d' v r' hf)
    cases b (ds ++ List.replicate (N.length - ds.length) .und) S with
    | nx env' S' => exact fun g σ' ρ' H' p R' re => endF_ok g p R' .non
    | bk env' S' => exact fun g => g.elim
    | ct env' S' => exact fun g => g.elim
    | bad => exact fun g => g.elim
    | xc c S' =>
      intro g σ' ρ' H' p R'
      unfold fnEnd endX at g
      simp only at g
      cases hb : Nat.beq S'.length S.length with
      | true => rw [hb] at g; exact g ρ' H' p R'
      | false =>
        rw [hb] at g
        simp only [cond_false] at g
        obtain ⟨t, rfl⟩ := p.pre
        cases hl : (S'.take S.length).all (lowO S.length) with
        | false => rw [hl] at g; exact g.elim
        | true =>
          rw [hl] at g
          rw [← R.len] at hl g
          exact g ρ H' p.cut (R'.cut hl)
    | rt d S' =>
      cases m with
      | false => exact fun g v ρ' H' p R' r' => endF_ok g p R' r'
      | true =>
        intro g v ρ' H' p R' r'
        unfold fnEnd endM at g
        simp only [cond_true] at g
        cases r' with
        | @loc i a h =>
          simp only at g
          cases hb : Nat.ble S.length i with
          | false => rw [hb] at g; exact g.elim
          | true =>
            rw [hb] at g
            simp only [cond_true] at g
            have hi : S.length ≤ i := Nat.le_of_ble_eq_true hb
            cases q : S'[i]? with
            | none => rw [q] at g; exact g.elim
            | some o =>
              rw [q] at g
              simp only at g
              cases hl : ((S'.take S.length).all (lowO S.length) && lowO S.length o) with
              | false => rw [hl] at g; exact g.elim
              | true =>
                rw [hl] at g
                rw [Bool.and_eq_true] at hl
                obtain ⟨t, rfl⟩ := p.pre
                rw [← R.len] at hl g hi
                have R2 := R'.cut hl.1
                have hm : a ∈ ρ ++ t := List.mem_of_getElem? h
                have ha : a ∉ ρ := fun z => by
                  obtain ⟨j, hj⟩ := List.mem_iff_getElem?.mp z
                  have hjl := (List.getElem?_eq_some_iff.mp hj).1
                  have : (ρ ++ t)[j]? = some a := by rw [List.getElem?_append_left hjl]; exact hj
                  have := L2.nd_ix R'.nd this h
                  omega
                have hsub : ∀ b, b ∈ ρ ++ [a] → b ∈ ρ ++ t := fun b hb => (List.mem_append.mp hb).elim (List.mem_append_left _) fun z => by simp at z; rw [z]; exact hm
                refine g (.ref a) (ρ ++ [a]) H' ⟨p.ext, ⟨[a], rfl⟩, fun b hb => p.new b (hsub b hb)⟩ ⟨?_, ?_, fun b hb => R'.dj b (hsub b hb), R'.avo, R'.lk, fun n b ob h1 h2 => ?_⟩ (.loc ?_)
                · have := R2.len
                  simp only [List.length_append, List.length_cons, List.length_nil]
                  omega
                · rw [List.nodup_append]
                  refine ⟨R2.nd, by simp, fun b hb c hc => ?_⟩
                  simp at hc; subst hc
                  rintro rfl
                  exact ha hb
                · have lift : ∀ {ob : Ob}, lowO ρ.length ob = true → RO ⟨P, w, K⟩ B L (ρ ++ t) H' b ob → RO ⟨P, w, K⟩ B L (ρ ++ [a]) H' b ob := fun e q =>
                    q.low hsub (fun j c hj z => by rw [List.getElem?_append_left hj] at z; rw [List.getElem?_append_left hj]; exact z) e
                  by_cases hn : n < ρ.length
                  · rw [List.getElem?_append_left hn] at h1
                    rw [List.getElem?_append_left (by rw [← R2.len]; exact hn)] at h2
                    have h2' : S'[n]? = some ob := by rw [List.getElem?_take_of_lt hn] at h2; exact h2
                    exact lift (List.all_eq_true.mp hl.1 ob (List.mem_of_getElem? h2)) (R'.ob n b ob (by rw [List.getElem?_append_left hn]; exact h1) h2')
                  · have hn' : n = ρ.length := by
                      have := (List.getElem?_eq_some_iff.mp h1).1
                      simp at this; omega
                    subst hn'
                    have e1 : (S'.take ρ.length).length = ρ.length := R2.len.symm
                    rw [List.getElem?_append_right (Nat.le_refl _)] at h1
                    rw [List.getElem?_append_right (by rw [e1]; exact Nat.le_refl _), e1] at h2
                    simp only [Nat.sub_self, List.getElem?_cons_zero, Option.some.injEq] at h1 h2
                    subst h1; subst h2
                    exact lift hl.2 (R'.ob i a o h q)
                · rw [List.getElem?_append_right (Nat.le_refl _)]; simp
        | _ => exact g.elim
/-- a def that is never reached at this depth -/
theorem fn_bad {k : Nat} {f : Addr} {fd : FuncData} {ps : List Str} {xm : XM} {n : Nat} (h : ps.length = n) : FnOk P w K mg base (L2.CX P w) k f fd ps (spOf ⟨P, w, K⟩ xm n fun _ _ => .bad) :=
  ⟨fun vs H Q E h' => h'.1.trans h.symm, fun A outer s H args us vs Q E _ _ _ _ h => let ⟨_, _, _, _, _, _, _, _, z⟩ := h; z.elim⟩
end

/-! ### calls -/
def fCall (F : Fn) (fs : FA) : FE := fun env S => (fs env S).bind fun ds S1 => F ds S1
def pureF (F : Fn) : Fn := fun ds S => bif lowL 0 ds then (match F ds [] with
  | .ok d [] => .ok d S
  | .exc c [] => .exc c S
  | _ => .bad) else .bad
section
variable {X : Cx} {w : Wx} {k n : Nat} {f : Addr} {fd : FuncData} {ps : List Str} {F : Fn} {x : Str} {p pos : Pos} {e : Expr} {es : List Expr} {fs : FA}
theorem se_call (FO : FnOk X.prog X.w X.K X.mg X.base (L2.CX X.prog X.w) k f fd ps (spOf (pg X) w.xm n F)) (hn : (e :: es).length = n) (tk : Takes X w.W) (hr : Room k X.A) (hm : X.mg x = some (.ref f)) (hk : PySem.W.keepIn X.K (.ref f) = true) (hb : Binds X.K fd ps [])
    (ha : SA X w (e :: es) fs) (hlen : ∀ env S ds S', fs env S = .ok ds S' → ds.length = n) (hg : Gl X x := by rfl) (hdb : (x == ("__debug__" : Str)) = false := by decide) (he : starEach (e :: es) X.env = (false, eval e X.env) :: starEach es X.env := by rfl) (hpl : (backTo pos (starEach es X.env)).any (·.1) = false := by rfl) :
    SE X w (.Call (.Name x p) (e :: es) [] pos) (fCall F fs) :=
  PE.imp (pe_callS FO hr hg hm hk hb (passAt tk) ha hdb he hpl) fun σ H Q ⟨B, L, ρ, S, env, A, g⟩ => by
    refine ⟨B, L, ρ, S, env, A, ?_⟩
    revert g
    unfold fCall
    cases hfs : fs env S with
    | exc c S' => exact fun g => g
    | bad => exact fun g => g
    | ok ds S' =>
      intro g vs ρ' H' pp R r
      have g' : GO (pg X) w.W w.xm B L ρ' H' σ (rD (pg X) B) (F ds S') Q := GO.step g pp
      refine ⟨by rw [← RVs.length r]; exact hlen _ _ _ _ hfs, B, L, ρ', S', ds, R, r, ?_⟩
      revert g'
      cases F ds S' with
      | ok d S2 => exact fun g => g
      | exc c S2 => exact fun g => g
      | bad => exact fun g => g
theorem spOf_pure {G : Pg} {xm : XM} {n : Nat} {F : Fn} {vs : List V} {H : Hp} {Q : VK} {E : XK} (h : spOf G xm n (pureF F) vs H Q E) : spOf G xm n F vs H Q E := by
  obtain ⟨hl, B, L, ρ, S, ds, R, r, g⟩ := h
  refine ⟨hl, B ++ ρ, L, [], [], ds, ⟨rfl, List.nodup_nil, (fun a z => nomatch z), fun b hb => (List.mem_append.mp hb).elim (R.avo b) R.someM, R.lk, fun n a o h => (by simp at h)⟩, ?_⟩
  unfold pureF at g
  cases hlow : lowL 0 ds with
  | false => rw [hlow] at g; exact g.elim
  | true =>
    rw [hlow] at g
    simp only [cond_true] at g
    refine ⟨?_, ?_⟩
    · -- the places that the caller may change are avoided
      have key : ∀ {d : D} {v : V}, RV G.K B ρ H d v → lowD 0 d = true → RV G.K (B ++ ρ) [] H d v := by
        intro d v h
        refine RV.rec (motive_1 := fun d v _ => lowD 0 d = true → RV G.K (B ++ ρ) [] H d v) (motive_2 := fun ds vs _ => lowL 0 ds = true → RVs G.K (B ++ ρ) [] H ds vs) (fun _ => .non) (fun b _ => .bl b) (fun i _ => .int i) (fun x _ => .str x) (fun h _ ih e => ?_) (fun h1 h2 h3 _ ih e => ?_) (fun h _ ih e => ?_) (fun h e => ?_) (fun h _ => .glob h) (fun _ => .nil) (fun _ _ ih1 ih2 e => ?_) h
        · exact .tup ⟨fun z => (List.mem_append.mp z).elim h.1 h.2.1, (fun z => nomatch z), h.2.2⟩ (ih e)
        · exact .lst (fun z => (List.mem_append.mp z).elim h1 h2) (fun z => nomatch z) h3 (ih e)
        · exact .scr (h.imp (fun h => ⟨fun z => (List.mem_append.mp z).elim h.1 h.2.1, (fun z => nomatch z), h.2.2⟩) id) (ih e)
        · exact absurd (Nat.le_of_ble_eq_true e) (Nat.not_succ_le_zero _)
        · unfold lowL at e
          rw [Bool.and_eq_true] at e
          exact .cons (ih1 e.1) (ih2 e.2)
      have keys : ∀ {ds : List D} {vs : List V}, RVs G.K B ρ H ds vs → lowL 0 ds = true → RVs G.K (B ++ ρ) [] H ds vs := by
        intro ds vs h
        induction ds generalizing vs with
        | nil => intro _; cases h; exact .nil
        | cons d ds ih =>
          cases h with
          | cons h t =>
            intro e
            unfold lowL at e
            rw [Bool.and_eq_true] at e
            exact .cons (key h e.1) (ih t e.2)
      exact keys r hlow
    · have back : ∀ {H' : Hp} {ρ' : List Addr}, Post L [] H ρ' H' → Post L ρ H ρ H' := fun p => ⟨fun a u _ => p.ext a u (.inl fun z => nomatch z), ⟨[], by simp⟩, fun _ h => .inl h⟩
      have backR : ∀ {H' : Hp} {ρ' : List Addr}, Post L [] H ρ' H' → RH G B L ρ H' S := fun p =>
        ⟨R.len, R.nd, R.dj, fun b hb => let ⟨u, e⟩ := R.avo b hb; ⟨u, p.ext b u (.inl fun z => nomatch z) e⟩, fun a ha => let ⟨o, u, e⟩ := R.lk a ha; ⟨o, u, p.ext a _ (.inl fun z => nomatch z) e⟩, fun n a o h1 h2 => by
          obtain ⟨u, e⟩ := R.there h1
          exact (R.ob n a o h1 h2).mono (back p) ((p.ext a u (.inl fun z => nomatch z) e).trans e.symm)⟩
      revert g
      cases F ds [] with
      | bad => exact fun g => g
      | exc c S' =>
        cases S' with
        | nil => exact fun g ρ' H' p R' => g ρ H' (back p) (backR p)
        | cons => exact fun g => g.elim
      | ok d S' =>
        cases S' with
        | nil =>
          intro g v ρ' H' p R' r'
          have hρ : ρ' = [] := List.eq_nil_of_length_eq_zero R'.len
          subst hρ
          exact g v ρ H' (back p) (backR p) (r'.re (fun a z => .inl (List.mem_append.mpr z)) fun n a z => by simp at z)
        | cons => exact fun g => g.elim
theorem fn_pure {P : Program} {w : World} {K : PySem.W.Frag} {mg : Str → Option Value} {base : Heap} {G : Pg} {xm : XM} {k n : Nat} {f : Addr} {fd : FuncData} {ps : List Str} {F : Fn} (h : FnOk P w K mg base (L2.CX P w) k f fd ps (spOf G xm n F)) : FnOk P w K mg base (L2.CX P w) k f fd ps (spOf G xm n (pureF F)) :=
  h.imp fun vs H Q E => spOf_pure
end
end Sf
end

section
set_option Elab.async false
set_option maxRecDepth 100000
set_option linter.all false
/-! Sf8: methods of lists, chains, a walk over a list's place, the law's end. -/
namespace Sf
open PySem PySem.Spec PyProof.Rows L2 RZ

/-! ### built-in names -/
theorem bt_len : bootBuiltins "len" = some (.builtin "len") := by decide +kernel
theorem bt_abs : bootBuiltins "abs" = some (.builtin "abs") := by decide +kernel
theorem bt_max : bootBuiltins "max" = some (.builtin "max") := by decide +kernel
theorem bt_min : bootBuiltins "min" = some (.builtin "min") := by decide +kernel
theorem bt_sum : bootBuiltins "sum" = some (.builtin "sum") := by decide +kernel
theorem bt_all : bootBuiltins "all" = some (.builtin "all") := by decide +kernel
theorem bt_any : bootBuiltins "any" = some (.builtin "any") := by decide +kernel
theorem bt_isinstance : bootBuiltins "isinstance" = some (.builtin "isinstance") := by decide +kernel
theorem bt_sorted : bootBuiltins "sorted" = some (.builtin "sorted") := by decide +kernel
theorem bt_int : bootBuiltins "int" = some (.type "int") := by decide +kernel
theorem bt_bool : bootBuiltins "bool" = some (.type "bool") := by decide +kernel
theorem bt_str : bootBuiltins "str" = some (.type "str") := by decide +kernel
theorem bt_list : bootBuiltins "list" = some (.type "list") := by decide +kernel
theorem bt_tuple : bootBuiltins "tuple" = some (.type "tuple") := by decide +kernel

/-! ### lengths of argument lists -/
def LenA (fs : FA) (n : Nat) : Prop := ∀ env S ds S', fs env S = .ok ds S' → ds.length = n
theorem len_nil : LenA fNil 0 := fun env S ds S' h => by cases h; rfl
theorem len_cons {f : FE} {fs : FA} {n : Nat} (h : LenA fs n) : LenA (fCons f fs) (n + 1) := fun env S ds S' e => by
  unfold fCons at e
  cases e1 : f env S with
  | exc c S1 => rw [e1] at e; cases e
  | bad => rw [e1] at e; cases e
  | ok x S1 =>
    rw [e1] at e
    have e : ((fs env S1).bind fun xs S2 => Out.ok (x :: xs) S2) = .ok ds S' := e
    cases e2 : fs env S1 with
    | exc c S2 => rw [e2] at e; cases e
    | bad => rw [e2] at e; cases e
    | ok xs S2 => rw [e2] at e; cases e; rw [List.length_cons, h _ _ _ _ e2]

/-! ### what is never reached -/
def sBad : FS := fun _ _ => .bad
theorem ss_bad {X : Cx} {w : Wx} {st : Stmt} : SS X w st sBad := PS.imp ps_never fun D σ H ⟨B, L, ρ, S, env, A, g⟩ => g.elim

/-! ### x op= e with great factors; chains -/
section
variable {X : Cx} {w : Wx} {a b c : Expr} {fa fb fc : FE} {pos : Pos}
theorem iop_mulW : OpR X (inplaceOp .Mult) (rI CMulW fun i j => .int (i * j)) := opI fun _ _ _ _ _ _ _ hc q => imul_int q hc.ok
def oMulI : Op2 := fun x y S => match x, y with
  | .int i, .int j => bif mulOk i j then some (.int (i * j), S) else none
  | _, _ => none
def oAddI : Op2 := fun x y S => match x, y with
  | .int i, .int j => some (.int (i + j), S)
  | _, _ => none
theorem ok_addI : Ok2 (pg X) (rI0 fun i j => .int (i + j)) oAddI := by
  intro B L ρ S S' H d1 d2 d' x y Q R r1 r2 e q
  cases r1 with
  | int i =>
    cases r2 with
    | int j => cases e; exact ⟨i, j, rfl, rfl, here q R (.int _)⟩
    | _ => cases e
  | _ => cases e
theorem opr_imul : OpR X (inplaceOp .Mult) (fun x y H Q => rI CMul (fun i j => .int (i * j)) x y H Q ∨ rI CMulW (fun i j => .int (i * j)) x y H Q) := iop_mul.or iop_mulW
theorem ok_mulI : Ok2 (pg X) (fun x y H Q => rI CMul (fun i j => .int (i * j)) x y H Q ∨ rI CMulW (fun i j => .int (i * j)) x y H Q) oMulI := by
  intro B L ρ S S' H d1 d2 d' x y Q R r1 r2 e q
  cases r1 with
  | int i =>
    cases r2 with
    | int j =>
      unfold oMulI at e
      cases hf : mulOk i j with
      | false => simp [hf] at e
      | true =>
        simp [hf] at e; obtain ⟨rfl, rfl⟩ := e
        rcases mulOk_ok hf with c | c
        · exact .inl ⟨i, j, rfl, rfl, c, here q R (.int _)⟩
        · exact .inr ⟨i, j, rfl, rfl, c, here q R (.int _)⟩
    | _ => cases e
  | _ => cases e
/-- a <= b <= c -/
def fChain (p q : Int → Int → Bool) (fa fb fc : FE) : FE := fun env S => (fa env S).bind fun x S1 => (fb env S1).bind fun y S2 => match x, y with
  | .int i, .int j => bif p i j then (fc env S2).bind fun z S3 => (match z with
      | .int k => .ok (.bl (q j k)) S3
      | _ => .bad) else .ok (.bl false) S2
  | _, _ => .bad
theorem go_chain {p q : Int → Int → Bool} {σ : L2.St} {H : Hp} {Q : VK} (h : tE (pg X) w.W w.xm (fChain p q fa fb fc) σ H Q) :
    tChain (rI0 fun i j => .bl (p i j)) (rI0 fun i j => .bl (q i j)) (tE (pg X) w.W w.xm fa) (tE (pg X) w.W w.xm fb) (tE (pg X) w.W w.xm fc) σ H Q := by
  obtain ⟨B, L, ρ, S, env, A, g⟩ := h
  refine tE_mono (tE_bind2 (rel := rD (pg X)) A g) fun x H1 h1 => tE_mono h1 fun y H2 ⟨B, L, ρ, S, d, d2, A, r, r2, g⟩ => ?_
  cases r with
  | int i =>
    cases r2 with
    | int j =>
      refine ⟨i, j, rfl, rfl, _, rfl, ?_⟩
      simp only at g
      cases hp : p i j with
      | false => rw [hp] at g; exact iteF (GO.ok0 g A (.bl _))
      | true =>
        rw [hp] at g
        refine iteT (tE_mono (tE_bind (rel := rD (pg X)) A g) fun z H3 ⟨B, L, ρ, S, d, A, r, g⟩ => ?_)
        cases r with
        | int k => exact ⟨j, k, rfl, rfl, GO.ok0 g A (.bl _)⟩
        | _ => exact g.elim
    | _ => exact g.elim
  | _ => exact g.elim
theorem se_chain {op op' : CmpOp} {p q : Int → Int → Bool} (ho : OpR X (compareOp op) (rI0 fun i j => .bl (p i j))) (ho' : OpR X (compareOp op') (rI0 fun i j => .bl (q i j))) (ha : SE X w a fa) (hb : SE X w b fb) (hc : SE X w c fc)
    (hm : lastMarks [op, op'] [b, c] = false := by with_unfolding_all rfl) : SE X w (.Compare a [op, op'] [b, c] pos) (fChain p q fa fb fc) :=
  PE.imp (pe_chain ho ho' ha hb hc hm) fun σ H Q h => go_chain h
theorem st_chain {op op' : CmpOp} {p q : Int → Int → Bool} (ho : OpR X (compareOp op) (rI0 fun i j => .bl (p i j))) (ho' : OpR X (compareOp op') (rI0 fun i j => .bl (q i j))) (ha : SE X w a fa) (hb : SE X w b fb) (hc : SE X w c fc)
    (hm : lastMarks [op, op'] [b, c] = false := by with_unfolding_all rfl) : ST X w (.Compare a [op, op'] [b, c] pos) (tVal (fChain p q fa fb fc)) :=
  PT.imp (pt_chain ho ho' ha hb hc hm) fun σ H Q ⟨B, L, ρ, S, env, A, gg⟩ => by
    have key : tE (pg X) w.W w.xm (fChain p q fa fb fc) σ H fun x H1 => ∃ k, x = .bl k ∧ Q k H1 := by
      refine tE_mono (tE_bind (rel := fun _ => rB) (f := fChain p q fa fb fc) A gg) fun x H1 ⟨B, L, ρ, S, d, A, r, g⟩ => ?_
      cases r with
      | bl c => exact ⟨c, rfl, GO.ok0 g A rfl⟩
      | _ => exact g.elim
    exact go_chain key
end

/-! ### methods of a list -/
/-- o.m(e, ..), o.m(): an operation on the receiver and the arguments -/
abbrev OpM := D → List D → Sto → Option (D × Sto)
def fMeth (g : OpM) (fo : FE) (fs : FA) : FE := fun env S => (fo env S).bind fun o S1 => (fs env S1).bind fun xs S2 => outO (g o xs S2)
def mAppend : OpM := fun o xs S => match o, xs with
  | .loc n, [x] => match S[n]? with
    | some (.lst l) => bif fitS l.length then some (.non, S.set n (.lst (l ++ [x]))) else none
    | _ => none
  | _, _ => none
def mExtend : OpM := fun o xs S => match o, xs with
  | .loc n, [y] => match S[n]?, lsW y S with
    | some (.lst l), some m => bif fit (l.length + m.length) then some (.non, S.set n (.lst (l ++ m))) else none
    | _, _ => none
  | _, _ => none
def mPop : OpM := fun o xs S => match o, xs with
  | .loc n, [] => match S[n]? with
    | some (.lst l) => match l.getLast? with
      | some x => some (x, S.set n (.lst l.dropLast))
      | none => none
    | _ => none
  | _, _ => none
def mCount : OpM := fun o xs S => match lsR o S, xs with
  | some l, [.int k] => match intsD l with
    | some ns => some (.int ((ns.count k : Nat) : Int), S)
    | none => none
  | _, _ => none
abbrev OkM (G : Pg) (r : V → List V → Hp → VK → Prop) (g : OpM) : Prop := ∀ (B L ρ : List Addr) (S S' : Sto) (H : Hp) (o : D) (ds : List D) (d' : D) (x : V) (xs : List V) (Q : VK), RH G B L ρ H S → RV G.K B ρ H o x → RVs G.K B ρ H ds xs → g o ds S = some (d', S') →
  (∀ v ρ' H', Post L ρ H ρ' H' → RH G B L ρ' H' S' → RV G.K B ρ' H' d' v → Q v H') → r x xs H Q
section
variable {X : Cx} {w : Wx} {o e : Expr} {es : List Expr} {fo : FE} {fs : FA} {name : Str} {apos cpos : Pos}
/-- the receiver is a list -/
def isLs (d : D) (S : Sto) : Bool := (lsR d S).isSome
def fMethL (g : OpM) (fo : FE) (fs : FA) : FE := fun env S => (fo env S).bind fun o S1 => bif isLs o S1 then (fs env S1).bind fun xs S2 => outO (g o xs S2) else .bad
theorem isLs_ok {G : Pg} {B L ρ : List Addr} {S : Sto} {H : Hp} {d : D} {x : V} (R : RH G B L ρ H S) (r : RV G.K B ρ H d x) (h : isLs d S = true) : tyV G.K "list" x H := by
  unfold isLs at h
  obtain ⟨l, e⟩ := Option.isSome_iff_exists.mp h
  obtain ⟨a, vs, rfl, h1, h2⟩ := lsR_ok R r e
  exact .inl ⟨rfl, vs, h1⟩
theorem go_methL {g : OpM} {r : V → List V → Hp → VK → Prop} (h : OkM (pg X) r g) {σ : L2.St} {H : Hp} {Q : VK} (ht : tE (pg X) w.W w.xm (fMethL g fo fs) σ H Q) :
    tE (pg X) w.W w.xm fo σ H fun x H1 => tyV X.K "list" x H1 ∧ tA (pg X) w.W w.xm fs σ H1 fun xs H2 => r x xs H2 Q := by
  obtain ⟨B, L, ρ, S, env, A, gg⟩ := ht
  refine ⟨B, L, ρ, S, env, A, ?_⟩
  revert gg
  unfold fMethL
  cases fo env S with
  | exc c S' => exact fun g => g
  | bad => exact fun g => g
  | ok d S' =>
    intro g1 v ρ' H' p R r1
    have g2 : GO (pg X) w.W w.xm B L ρ' H' σ (rD (pg X) B) (bif isLs d S' then (fs env S').bind fun xs S2 => outO (g d xs S2) else .bad) Q := GO.step g1 p
    cases hl : isLs d S' with
    | false => rw [hl] at g2; exact g2.elim
    | true =>
      rw [hl] at g2
      refine ⟨isLs_ok (G := pg X) R r1 hl, B, L, ρ', S', env, A.step p R, ?_⟩
      revert g2
      show GO (pg X) w.W w.xm B L ρ' H' σ (rD (pg X) B) ((fs env S').bind fun xs S2 => outO (g d xs S2)) Q → _
      cases fs env S' with
      | exc c S' => exact fun g => g
      | bad => exact fun g => g
      | ok ds S2 =>
        intro g2 vs ρ2 H2 p2 R2 r2
        have g3 : GO (pg X) w.W w.xm B L ρ2 H2 σ (rD (pg X) B) (outO (g d ds S2)) Q := GO.step g2 p2
        obtain ⟨d', S3, e, q⟩ := g3.outO
        exact h B L ρ2 S2 S3 H2 d ds d' v vs Q R2 (r1.mono p2) r2 e q
theorem ok_append : OkM (pg X) rAppend mAppend := by
  intro B L ρ S S' H o ds d' x xs Q R ro rs e q
  match o, ds, e with
  | .loc n, [d], e =>
    obtain ⟨y, rfl, r⟩ := rvs1 rs
    cases ro with
    | @loc _ a h =>
      unfold mAppend at e
      simp only at e
      cases q1 : S[n]? with
      | none => rw [q1] at e; cases e
      | some ob =>
        rw [q1] at e
        cases ob with
        | lst l =>
          simp only at e
          cases hf : fitS l.length with
          | false => rw [hf] at e; cases e
          | true =>
            rw [hf] at e; cases e
            obtain ⟨vs, h1, h2⟩ := R.ob n a _ h q1
            have hl : a ∉ L := R.notL h1 fun _ _ z => nomatch z
            exact ⟨a, vs, y, rfl, rfl, h1, by rw [← h2.length]; exact fitS_lt hf, q .non ρ _ (Post.wr h hl) (R.wr h hl ⟨_, upd_same, RVs.mono (Post.wr (L := L) h hl) _ _ (h2.append (.cons r .nil))⟩) .non⟩
        | _ => cases e
theorem ok_extend : OkM (pg X) rExtend mExtend := by
  intro B L ρ S S' H o ds d' x xs Q R ro rs e q
  match o, ds, e with
  | .loc n, [d], e =>
    obtain ⟨y, rfl, r⟩ := rvs1 rs
    cases ro with
    | @loc _ a h =>
      unfold mExtend at e
      simp only at e
      cases q1 : S[n]? with
      | none => rw [q1] at e; cases e
      | some ob =>
        cases ob with
        | lst l =>
          cases q2 : lsW d S with
          | none => rw [q1, q2] at e; cases e
          | some m =>
            rw [q1, q2] at e
            simp only at e
            cases hf : fit (l.length + m.length) with
            | false => rw [hf] at e; cases e
            | true =>
              rw [hf] at e; cases e
              obtain ⟨vs, h1, h2⟩ := R.ob n a _ h q1
              obtain ⟨b, ws, rfl, h3, h4⟩ := lsW_ok (G := pg X) R r q2
              have hl : a ∉ L := R.notL h1 fun _ _ z => nomatch z
              exact ⟨a, b, vs, ws, rfl, rfl, h1, h3, by rw [← h2.length, ← h4.length]; exact fit_le hf, q .non ρ _ (Post.wr h hl) (R.wr h hl ⟨_, upd_same, RVs.mono (Post.wr (L := L) h hl) _ _ (h2.append h4)⟩) .non⟩
        | _ => rw [q1] at e; cases e
theorem ok_pop : OkM (pg X) rPop mPop := by
  intro B L ρ S S' H o ds d' x xs Q R ro rs e q
  match o, ds, e with
  | .loc n, [], e =>
    cases rs
    cases ro with
    | @loc _ a h =>
      unfold mPop at e
      simp only at e
      cases q1 : S[n]? with
      | none => rw [q1] at e; cases e
      | some ob =>
        rw [q1] at e
        cases ob with
        | lst l =>
          simp only at e
          cases q2 : l.getLast? with
          | none => rw [q2] at e; cases e
          | some z =>
            rw [q2] at e; cases e
            obtain ⟨vs, h1, h2⟩ := R.ob n a _ h q1
            have hl : a ∉ L := R.notL h1 fun _ _ z => nomatch z
            rw [List.getLast?_eq_getElem?, h2.length] at q2
            obtain ⟨y, e2, r2⟩ := h2.get q2
            exact ⟨a, vs, y, rfl, rfl, h1, e2, q y ρ _ (Post.wr h hl) (R.wr h hl ⟨_, upd_same, RVs.mono (Post.wr (L := L) h hl) _ _ h2.dropLast⟩) (r2.mono (Post.wr (L := L) h hl))⟩
        | _ => cases e
theorem ok_count : OkM (pg X) (rCntI X.K) mCount := by
  intro B L ρ S S' H o ds d' x xs Q R ro rs e q
  unfold mCount at e
  cases e1 : lsR o S with
  | none => rw [e1] at e; cases e
  | some l =>
    rw [e1] at e
    match ds, e with
    | [.int k], e =>
      obtain ⟨y, rfl, r⟩ := rvs1 rs
      cases r
      simp only at e
      cases e2 : intsD l with
      | none => rw [e2] at e; cases e
      | some ns =>
        rw [e2] at e; cases e
        obtain ⟨a, vs, rfl, h1, h2⟩ := lsR_ok (G := pg X) R ro e1
        obtain rfl := intsD_ok (G := pg X) h2 e2
        exact ⟨a, ns, k, rfl, rfl, h1, here (G := pg X) q R (.int _)⟩
theorem se_append (ho : SE X w o fo) (ha : SA X w [e] fs) (hbase : attributeBase o "append" X.env (eval o X.env) = eval o X.env := by rfl)
    (hfew : ((backTo cpos (starEach [e] X.env)).all (fun x => !x.1) && (backToKw cpos (keywordEach [] X.env)).all (fun x => x.1.isSome) && decide (([e] : List Expr).length + ([] : List Keyword).length + (if ([] : List Keyword).isEmpty then 0 else 1) < 30)) = true := by rfl)
    (hline : (apos.endLine == cpos.line) = true := by rfl) (hs : starEach [e] X.env = (false, eval e X.env) :: starEach [] X.env := by rfl) (hplain : (backTo cpos (starEach [] X.env)).any (·.1) = false := by rfl) :
    SE X w (.Call (.Attribute o "append" apos) [e] [] cpos) (fMethL mAppend fo fs) :=
  PE.imp (pe_bm PySem.F.plainAttrs_list PySem.F.slot_list_append PySem.F.type_list_append mt_append ho ha hbase hfew hline hs hplain) fun σ H Q h => go_methL ok_append h
theorem se_extend (ho : SE X w o fo) (ha : SA X w [e] fs) (hbase : attributeBase o "extend" X.env (eval o X.env) = eval o X.env := by rfl)
    (hfew : ((backTo cpos (starEach [e] X.env)).all (fun x => !x.1) && (backToKw cpos (keywordEach [] X.env)).all (fun x => x.1.isSome) && decide (([e] : List Expr).length + ([] : List Keyword).length + (if ([] : List Keyword).isEmpty then 0 else 1) < 30)) = true := by rfl)
    (hline : (apos.endLine == cpos.line) = true := by rfl) (hs : starEach [e] X.env = (false, eval e X.env) :: starEach [] X.env := by rfl) (hplain : (backTo cpos (starEach [] X.env)).any (·.1) = false := by rfl) :
    SE X w (.Call (.Attribute o "extend" apos) [e] [] cpos) (fMethL mExtend fo fs) :=
  PE.imp (pe_bm PySem.F.plainAttrs_list PySem.F.slot_list_extend PySem.F.type_list_extend mt_extend ho ha hbase hfew hline hs hplain) fun σ H Q h => go_methL ok_extend h
theorem se_count (ho : SE X w o fo) (ha : SA X w [e] fs) (hbase : attributeBase o "count" X.env (eval o X.env) = eval o X.env := by rfl)
    (hfew : ((backTo cpos (starEach [e] X.env)).all (fun x => !x.1) && (backToKw cpos (keywordEach [] X.env)).all (fun x => x.1.isSome) && decide (([e] : List Expr).length + ([] : List Keyword).length + (if ([] : List Keyword).isEmpty then 0 else 1) < 30)) = true := by rfl)
    (hline : (apos.endLine == cpos.line) = true := by rfl) (hs : starEach [e] X.env = (false, eval e X.env) :: starEach [] X.env := by rfl) (hplain : (backTo cpos (starEach [] X.env)).any (·.1) = false := by rfl) :
    SE X w (.Call (.Attribute o "count" apos) [e] [] cpos) (fMethL mCount fo fs) :=
  PE.imp (pe_bm PySem.F.plainAttrs_list PySem.F.slot_list_count PySem.F.type_list_count mt_lcount ho ha hbase hfew hline hs hplain) fun σ H Q h => go_methL ok_count h
theorem se_pop (ho : SE X w o fo) (hbase : attributeBase o "pop" X.env (eval o X.env) = eval o X.env := by rfl) (hline : (apos.endLine == cpos.line) = true := by rfl) :
    SE X w (.Call (.Attribute o "pop" apos) [] [] cpos) (fMethL mPop fo fNil) :=
  PE.imp (pe_bm0 PySem.F.plainAttrs_list PySem.F.slot_list_pop PySem.F.type_list_pop mt_pop ho hbase hline) fun σ H Q h => tE_mono (go_methL (fs := fNil) ok_pop h) fun x H1 ⟨h1, B, L, ρ, S, env, A, g⟩ => ⟨h1, g [] ρ H1 Post.refl A.rh .nil⟩
end

/-! ### a walk over a value or over a list's place -/
def forV (g : D → En → Option En) (b : FS) (n : Nat) : Nat → Nat → FS
  | 0, _ => fun _ _ => .bad
  | k + 1, i => fun env S => match S[n]? with
    | some (.lst l) => match l[i]? with
      | some d => match g d env with
        | none => .bad
        | some env1 => match b env1 S with
          | .nx env' S' => forV g b n k (i + 1) env' S'
          | .ct env' S' => forV g b n k (i + 1) env' S'
          | .bk env' S' => .nx env' S'
          | r => r
      | none => .nx env S
    | _ => .bad
def sForD (a : FE) (g : D → En → Option En) (b : FS) : FS := fun env S => (a env S).bindS fun x S1 => match x with
  | .loc n => match S1[n]? with
    | some (.lst l) => forV g b n (l.length + 1) 0 env S1
    | _ => .bad
  | x => match itemsD x with
    | some l => forL g b l env S1
    | none => .bad

section
variable {X : Cx} {w : Wx} {tg iter : Expr} {body : List Stmt} {fe : FE} {g : D → En → Option En} {t : TG} {is : List Nat} {f : FS} {pos : Pos}
theorem ss_forD (hp : PassesOwn (model X.prog X.w) X.A X.env X.xe) (hc : X.calm = true) (hi : SE X w iter fe) (hg : SG X tg t g is) (hb : SSs X w body f) (hs : ∀ x, foldedSetIterable iter X.env x = pure x := by intro _; rfl) :
    SS X w (.For tg iter body [] pos) (sForD fe g f) := PS.imp (ps_for hp hc (pi_seq hi) hg.pg hb hs) fun D σ H ⟨B, L, ρ, S, env, A, gg⟩ => by
  refine ⟨B, L, ρ, S, env, A, ?_⟩
  revert gg
  unfold sForD
  cases fe env S with
  | exc c S' => exact fun g => g σ
  | bad => exact fun g => g
  | ok d S' =>
    intro gg v ρ1 H1 p R r
    have A1 := A.step p R
    -- a value
    have fixd : ∀ {l : List Sf.D} {J : It} {I : List Addr → List Addr → Hp → Prop}, GS (pg X) w.W w.xm B L ρ H (forL g f l env S') D → WalkOk (pg X) L J l I → I B ρ1 H1 →
        ∃ W : Nat → Nat → L2.St → Hp → Prop, (∃ m, W 0 m σ H1) ∧ ∀ i m σ H, W i m σ H →
          (J.stop i H ∧ D.nx σ H) ∨ (J.go i H ∧ ∃ N : L2.St → Hp → Prop, (∀ σ' H', N σ' H' → ∃ m', m' < m ∧ W (i + 1) m' σ' H') ∧ ∀ x H', J.yld i H x H' → t x σ H' fun σ2 H2 => tS (pg X) w.W w.xm f { D with nx := N, ct := N, bk := D.nx } σ2 H2) := by
      intro l J I gg wk i0
      have g1 : GS (pg X) w.W w.xm B L ρ1 H1 (forL g f l env S') D := GS.step gg p
      refine ⟨fun i m σ H => ∃ ρ S env, At (pg X) B L ρ S env σ H ∧ I B ρ H ∧ i ≤ l.length ∧ m = l.length - i ∧ GS (pg X) w.W w.xm B L ρ H (forL g f (l.drop i) env S) D, ⟨l.length, ρ1, S', env, A1, i0, Nat.zero_le _, rfl, g1⟩, ?_⟩
      rintro i m σ2 H2 ⟨ρ2, S2, env2, A2, i2, hle, rfl, g2⟩
      by_cases hlt : i < l.length
      · refine .inr ⟨wk.go B ρ2 H2 i i2 hlt, fun σ H => ∃ ρ S env, At (pg X) B L ρ S env σ H ∧ I B ρ H ∧ GS (pg X) w.W w.xm B L ρ H (forL g f (l.drop (i + 1)) env S) D, fun σ' H' ⟨ρ, S, env, A, i', g'⟩ => ⟨l.length - (i + 1), by omega, ρ, S, env, A, i', hlt, rfl, g'⟩, ?_⟩
        intro x H3 y
        obtain ⟨p3, R3, r3⟩ := wk.yld B ρ2 S2 H2 H3 i l[i] x i2 A2.rh (List.getElem?_eq_getElem hlt) y
        rw [List.drop_eq_getElem_cons hlt] at g2
        unfold forL at g2
        cases hu : g l[i] env2 with
        | none => rw [hu] at g2; exact g2.elim
        | some env3 =>
          rw [hu] at g2
          refine hg.ok B L ρ2 H3 l[i] x env2 env3 σ2 _ r3 (A2.re.mono p3) hu fun σ3 re3 _ => ?_
          refine ⟨B, L, ρ2, S2, env3, ⟨R3, re3⟩, ?_⟩
          have g3 := GS.step g2 p3
          have i3 := wk.mono B ρ2 ρ2 H2 H3 p3 i2
          revert g3
          simp only
          cases f env3 S2 with
          | nx env' S' => exact fun g σ' ρ' H' p R re => ⟨ρ', S', env', ⟨R, re⟩, wk.mono B ρ2 ρ' H3 H' p i3, GS.step g p⟩
          | ct env' S' => exact fun g σ' ρ' H' p R re => ⟨ρ', S', env', ⟨R, re⟩, wk.mono B ρ2 ρ' H3 H' p i3, GS.step g p⟩
          | bk e S' => exact fun g => g
          | rt e S' => exact fun g => g
          | xc c S' => exact fun g => g
          | bad => exact fun g => g
      · have hi : i = l.length := by omega
        subst hi
        rw [List.drop_length] at g2
        exact .inl ⟨wk.stop B ρ2 H2 i2, GS.nx0 g2 A2.rh A2.re⟩
    cases r with
    | tup h r => exact ⟨_, rfl, .inr ⟨⟨_, h.sq⟩, fixd gg walk_tup ⟨h, r⟩⟩⟩
    | lst h1 h2 h3 r => exact ⟨_, rfl, .inl ⟨⟨_, .inl (.inl h3)⟩, fixd gg walk_scr ⟨.inl ⟨h1, h2, .inl h3⟩, r⟩⟩⟩
    | scr h r => exact ⟨_, rfl, .inl ⟨⟨_, h.sq⟩, fixd gg walk_scr ⟨h, r⟩⟩⟩
    | @loc n a h =>
      have gg : GS (pg X) w.W w.xm B L ρ H (match S'[n]? with
        | some (.lst l) => forV g f n (l.length + 1) 0 env S'
        | _ => .bad) D := gg
      cases q1 : S'[n]? with
      | none => rw [q1] at gg; exact gg.elim
      | some ob =>
        rw [q1] at gg
        cases ob with
        | lst l =>
          obtain ⟨vs, h1, h2⟩ := R.ob n a _ h q1
          have g1 : GS (pg X) w.W w.xm B L ρ1 H1 (forV g f n (l.length + 1) 0 env S') D := GS.step gg p
          refine ⟨a, rfl, .inl ⟨⟨vs, .inl (.inl h1)⟩, ?_⟩⟩
          refine ⟨fun i m σ H => ∃ ρ S env, At (pg X) B L ρ S env σ H ∧ ρ[n]? = some a ∧ GS (pg X) w.W w.xm B L ρ H (forV g f n m i env S) D, ⟨l.length + 1, ρ1, S', env, A1, h, g1⟩, ?_⟩
          rintro i m σ2 H2 ⟨ρ2, S2, env2, A2, hn, g2⟩
          cases m with
          | zero => exact g2.elim
          | succ m =>
            unfold forV at g2
            cases q2 : S2[n]? with
            | none => rw [q2] at g2; exact g2.elim
            | some ob =>
              rw [q2] at g2
              cases ob with
              | lst l2 =>
                simp only at g2
                obtain ⟨vs2, h3, h4⟩ := A2.rh.ob n a _ hn q2
                cases q3 : l2[i]? with
                | none =>
                  rw [q3] at g2
                  exact .inl ⟨⟨vs2, .inl (.inl h3), by rw [← h4.length]; exact List.getElem?_eq_none_iff.mp q3⟩, GS.nx0 g2 A2.rh A2.re⟩
                | some d2 =>
                  rw [q3] at g2
                  simp only at g2
                  obtain ⟨v2, e2, r2⟩ := h4.get q3
                  refine .inr ⟨⟨vs2, v2, .inl (.inl h3), e2⟩, fun σ H => ∃ ρ S env, At (pg X) B L ρ S env σ H ∧ ρ[n]? = some a ∧ GS (pg X) w.W w.xm B L ρ H (forV g f n m (i + 1) env S) D, fun σ' H' h => ⟨m, Nat.lt_succ_self m, h⟩, ?_⟩
                  rintro x H3 ⟨rfl, y⟩
                  have := y vs2 (.inl (.inl h3))
                  rw [e2] at this; cases this
                  cases hu : g d2 env2 with
                  | none => rw [hu] at g2; exact g2.elim
                  | some env3 =>
                    rw [hu] at g2
                    refine hg.ok B L ρ2 H3 d2 v2 env2 env3 σ2 _ r2 A2.re hu fun σ3 re3 _ => ?_
                    refine ⟨B, L, ρ2, S2, env3, ⟨A2.rh, re3⟩, ?_⟩
                    revert g2
                    simp only
                    cases f env3 S2 with
                    | nx env' S' => exact fun g σ' ρ' H' p R re => ⟨ρ', S', env', ⟨R, re⟩, p.at hn, GS.step g p⟩
                    | ct env' S' => exact fun g σ' ρ' H' p R re => ⟨ρ', S', env', ⟨R, re⟩, p.at hn, GS.step g p⟩
                    | bk e S' => exact fun g => g
                    | rt e S' => exact fun g => g
                    | xc c S' => exact fun g => g
                    | bad => exact fun g => g
              | _ => exact g2.elim
        | _ => exact gg.elim
    | _ => exact gg.elim
end

/-! ### a, b = x, y -/
section
variable {X : Cx} {w : Wx} {fs : FA} {i j l : Nat} {x y z : Str} {a b c : Expr} {px py pz pt pos : Pos} {kt k2 : Nat} {pt2 : Pos}
theorem ss_par2s (hc : X.calm = true) (hN : X.N.Nodup) (ha : SA X w [a, b] fs) (hij : i ≠ j) (hi : X.N[i]? = some x := by rfl) (hj : X.N[j]? = some y := by rfl)
    (hx : X.env.scope.names.lookup x = some .local := by rfl) (hy : X.env.scope.names.lookup y = some .local := by rfl)
    (hw : swappedStores [.Tuple [.Name x px, .Name y py] kt pt] (.Tuple [a, b] k2 pt2) X.env = pure (some [x, y]) := by rfl)
    (hs : swapsWithSole [.Tuple [.Name x px, .Name y py] kt pt] (.Tuple [a, b] k2 pt2) pos.line X.env = pure false := by rfl) :
    SS X w (.Assign [.Tuple [.Name x px, .Name y py] kt pt] (.Tuple [a, b] k2 pt2) pos) (sPar2 i j fs) :=
  ss_par2 (ps_par hc hN hi hj hij hx hy ha hw hs) fun _ _ _ h => h
theorem ss_par3s (hc : X.calm = true) (hN : X.N.Nodup) (ha : SA X w [a, b, c] fs) (hij : i ≠ j) (hil : i ≠ l) (hjl : j ≠ l) (hi : X.N[i]? = some x := by rfl) (hj : X.N[j]? = some y := by rfl) (hl : X.N[l]? = some z := by rfl)
    (hx : X.env.scope.names.lookup x = some .local := by rfl) (hy : X.env.scope.names.lookup y = some .local := by rfl) (hz : X.env.scope.names.lookup z = some .local := by rfl)
    (hw : swappedStores [.Tuple [.Name x px, .Name y py, .Name z pz] kt pt] (.Tuple [a, b, c] k2 pt2) X.env = pure (some [x, y, z]) := by rfl)
    (hs : swapsWithSole [.Tuple [.Name x px, .Name y py, .Name z pz] kt pt] (.Tuple [a, b, c] k2 pt2) pos.line X.env = pure false := by rfl) :
    SS X w (.Assign [.Tuple [.Name x px, .Name y py, .Name z pz] kt pt] (.Tuple [a, b, c] k2 pt2) pos) (sPar3 i j l fs) :=
  ss_par3 (ps_par3 hc hN hi hj hl hij hil hjl hx hy hz ha hw hs) fun _ _ _ h => h
end

/-! ### names of the module -/
section
variable {X : Cx} {w : Wx} {pos : Pos} {x : Str}
theorem se_globI {i : Int} (h : ∃ t, X.mg x = some (.int i t)) (hg : Gl X x := by rfl) (hd : (x == ("__debug__" : Str)) = false := by decide) : SE X w (.Name x pos) (fCon (.int i)) := by
  obtain ⟨t, h⟩ := h
  exact se_con (pe_glob (v := .int i) hg h ⟨t, rfl⟩ hd) fun _ _ _ => .int i
theorem se_globS {i : Str} (h : ∃ t, X.mg x = some (.str i t)) (hg : Gl X x := by rfl) (hd : (x == ("__debug__" : Str)) = false := by decide) : SE X w (.Name x pos) (fCon (.str i)) := by
  obtain ⟨t, h⟩ := h
  exact se_con (pe_glob (v := .str i) hg h ⟨t, rfl⟩ hd) fun _ _ _ => .str i
theorem se_ty {n : String} (hm : X.mg x = none) (hv : bootBuiltins x = some (.type n)) (hg : Gl X x := by rfl) (hn : x ≠ "__name__" := by decide) (hd : (x == ("__debug__" : Str)) = false := by decide) : SE X w (.Name x pos) (fCon (.glob (.ty n))) :=
  se_con (pe_bltn (v := .ty n) hg hm hv rfl hn hd) fun _ _ _ => .glob (by intro z; cases z)
end
/-- a def as the top has left it -/
structure Df (K : PySem.W.Frag) (mg : Str → Option Value) (x : Str) (st : Stmt) (ps : List Str) (a : Addr) (fd : FuncData) : Prop where
  F : Fun K x x st a fd
  m : mg x = some (.ref a)
  b : Binds K fd ps []

/-! ### the law's end -/
abbrev W0f : XM → Prop := fun _ => True
theorem law_end {l : PySem.W.OpenLaw} {q : Program} {loose : List Str} {XP : (Str → Option Value) → Heap → Prop} {YP : World → Heap → Prop} {d : DefRec} {K : Params → PySem.W.Frag} {x : Str} {k : Nat} {F : Fn} {xm : PySem.W.Frag → XM}
    (hn : l.most = some 63) (hdf : d.params.defaults = []) (hr : Room k callerA)
    (hY : ∀ (w : World) (h : Heap), YP w h → (K w.params).In h)
    (hF : ∀ (w : World) (mg : Str → Option Value) (fa : Addr) (h : Heap), (K w.params).In h → h.Ns mainGlobals mg → mg d.name = some (.ref fa) →
      ∃ fd : FuncData, (∀ (s : Shared) (u : Value), BindsTo s fd ⟨[u], []⟩ [(x, u)]) ∧
        ∀ base : Heap, (K w.params).In base → base.Ns mainGlobals mg → FnOk l.prog w (K w.params) mg base (L2.CX l.prog w) k fa fd [x] (spOf ⟨l.prog, w, K w.params⟩ (xm (K w.params)) 1 F))
    (hT : ∀ ns : List Int, ns.length ≤ 63 → ∃ S', F [.scr (ns.map D.int)] [] = .ok (.bl true) S') :
    PySem.W.WalkO q loose XP YP l.row.toRowW d [] (fun f vs => PySem.call f vs) := by
  refine L2.walk_of (n := 63) (k := k) (x := x) (CX := fun w => L2.CX l.prog w) (sp := fun w => spOf ⟨l.prog, w, K w.params⟩ (xm (K w.params)) 1 F) hn (by decide) hdf hr hY hF (fun w H a ns hl hO hS => ?_) fun w H s e s' h => ?_
  · obtain ⟨S', e⟩ := hT ns hl
    have rvs : ∀ ns : List Int, RVs (K w.params) [] [] H (ns.map D.int) (ns.map V.int) := fun ns => by
      induction ns with
      | nil => exact .nil
      | cons n ns ih => exact .cons (.int n) ih
    refine ⟨rfl, [], [], [], [], [.scr (ns.map D.int)], ⟨rfl, List.nodup_nil, (fun a z => nomatch z), (fun a z => nomatch z), (fun a z => nomatch z), fun n a o h => (by simp at h)⟩, .cons (.scr ?_ (rvs ns)) .nil, ?_⟩
    · exact hS.imp (fun h => ⟨(fun z => nomatch z), (fun z => nomatch z), h⟩) id
    · rw [e]
      intro v ρ' H' p R r
      cases r; rfl
  · obtain ⟨_, _, _, _, _, _, _, _, _, _, _, _, z⟩ := h
    exact z.elim
end Sf
end

section
set_option Elab.async false
set_option maxRecDepth 100000
set_option linter.all false
/-! Sf9: sorted. -/
namespace Sf
open PySem PySem.Spec PyProof.Rows L2
def insI (i : Int) : List Int → List Int
  | [] => [i]
  | j :: l => bif decide (i ≤ j) then i :: j :: l else j :: insI i l
def srtI : List Int → List Int
  | [] => []
  | i :: l => insI i (srtI l)
theorem insI_perm (i : Int) : ∀ l : List Int, (insI i l).Perm (i :: l)
  | [] => List.Perm.refl _
  | j :: l => by
    unfold insI
    cases h : decide (i ≤ j) with
    | true => exact List.Perm.refl _
    | false => exact (List.Perm.cons j (insI_perm i l)).trans (List.Perm.swap i j l)
theorem srtI_perm : ∀ l : List Int, (srtI l).Perm l
  | [] => List.Perm.refl _
  | i :: l => (insI_perm i (srtI l)).trans (List.Perm.cons i (srtI_perm l))
theorem insI_srt (i : Int) : ∀ l : List Int, l.Pairwise (· ≤ ·) → (insI i l).Pairwise (· ≤ ·)
  | [], _ => by simp [insI]
  | j :: l, h => by
    unfold insI
    have h1 := List.pairwise_cons.mp h
    cases c : decide (i ≤ j) with
    | true =>
      have c := of_decide_eq_true c
      refine List.pairwise_cons.mpr ⟨fun x hx => ?_, h⟩
      rcases List.mem_cons.mp hx with rfl | hx
      · exact c
      · have := h1.1 x hx; omega
    | false =>
      have c := of_decide_eq_false c
      refine List.pairwise_cons.mpr ⟨fun x hx => ?_, insI_srt i l h1.2⟩
      rcases List.mem_cons.mp ((insI_perm i l).mem_iff.mp hx) with rfl | hx
      · omega
      · exact h1.1 x hx
theorem srtI_srt : ∀ l : List Int, (srtI l).Pairwise (· ≤ ·)
  | [] => List.Pairwise.nil
  | i :: l => insI_srt i _ (srtI_srt l)
theorem srtI_eq {l m : List Int} (h1 : m.Perm l) (h2 : m.Pairwise (· ≤ ·)) : m = srtI l :=
  List.Perm.eq_of_pairwise (le := (· ≤ ·)) (fun a b _ _ h h' => by omega) h2 (srtI_srt l) (h1.trans (srtI_perm l).symm)
def oSorted : OpN := fun xs S => match xs with
  | [x] => match lsR x S with
    | some l => match intsD l with
      | some ns => some (.lst ((srtI ns).map D.int), S)
      | none => none
    | none => none
  | _ => none
theorem rvs_ints {K : PySem.W.Frag} {B ρ : List Addr} {H : Hp} : ∀ l : List Int, RVs K B ρ H (l.map D.int) (l.map V.int)
  | [] => .nil
  | i :: l => .cons (.int i) (rvs_ints l)
section
variable {X : Cx}
theorem ok_sorted : OkN (pg X) (rSortedI X.K) oSorted := by
  intro B L ρ S S' H ds d' xs Q R r e q
  unfold oSorted at e
  match ds, r, e with
  | [x], .cons r1 .nil, e =>
    simp only at e
    cases e1 : lsR x S with
    | none => rw [e1] at e; cases e
    | some l =>
      rw [e1] at e
      simp only at e
      cases e2 : intsD l with
      | none => rw [e2] at e; cases e
      | some ns =>
        rw [e2] at e; cases e
        obtain ⟨a, vs, rfl, hs, rv⟩ := lsR_ok R r1 e1
        have := intsD_ok rv e2
        subst this
        refine ⟨a, ns, rfl, hs, fun ns' p h1 h2 hp => ?_⟩
        rw [srtI_eq h1 h2]
        exact q _ ρ _ (Post.newV hp) (R.newV hp) (.lst (R.fresh hp).2 (R.fresh hp).1 upd_same (rvs_ints _))
end
end Sf
end

section
set_option Elab.async false
set_option maxRecDepth 100000
set_option linter.all false
/-! Sd1: dicts whose keys are tuples of any depth: their rules. -/
namespace Sf
open PySem PySem.Spec PyProof.Rows L2

/-! the key that a value is -/
mutual
inductive KIs (H : Hp) : NestedKey → V → Prop
  | non : KIs H .none .non
  | int (i : Int) : KIs H (.num i) (.int i)
  | tup {a vs ks} : H a = some (.tup vs) → KIss H ks vs → KIs H (.tup ks) (.ref a)
inductive KIss (H : Hp) : List NestedKey → List V → Prop
  | nil : KIss H [] []
  | cons {k v ks vs} : KIs H k v → KIss H ks vs → KIss H (k :: ks) (v :: vs)
end
mutual
theorem kis_rv {K : PySem.W.Frag} {B ρ : List Addr} {H : Hp} : ∀ (d : D) (v : V) (nk : NestedKey), RV K B ρ H d v → D.key d = some nk → KIs H nk v
  | .und, _, _, h, _ => by cases h
  | .non, _, _, .non, e => by cases e; exact .non
  | .bl _, _, _, _, e => by cases e
  | .int i, _, _, .int _, e => by cases e; exact .int i
  | .str _, _, _, _, e => by cases e
  | .tup l, _, nk, .tup h r, e => by
    unfold D.key at e
    cases q : D.keys l with
    | none => rw [q] at e; cases e
    | some ks => rw [q] at e; cases e; exact .tup h.2.2 (kiss_rv l _ ks r q)
  | .lst _, _, _, _, e => by cases e
  | .scr _, _, _, _, e => by cases e
  | .loc _, _, _, _, e => by cases e
  | .glob _, _, _, _, e => by cases e
theorem kiss_rv {K : PySem.W.Frag} {B ρ : List Addr} {H : Hp} : ∀ (l : List D) (vs : List V) (ks : List NestedKey), RVs K B ρ H l vs → D.keys l = some ks → KIss H ks vs
  | [], _, _, .nil, e => by unfold D.keys at e; cases e; exact .nil
  | d :: l, _, ks, .cons h t, e => by
    unfold D.keys at e
    cases q : D.key d with
    | none => rw [q] at e; cases e
    | some k =>
      cases q' : D.keys l with
      | none => rw [q, q'] at e; cases e
      | some ks' => rw [q, q'] at e; cases e; exact .cons (kis_rv d _ k h q) (kiss_rv l _ ks' t q')
end
mutual
theorem nested_of {P : Program} {w : World} {H : Hp} {h : Heap} (ok : HOk P w H h) : ∀ (nk : NestedKey) (v : V) (u : Value), KIs H nk v → RelV v u → NestedIs h nk u
  | .none, _, u, .non, r => by cases (show u = Value.none from r); exact .none
  | .num i, _, u, .int _, r => by obtain ⟨t, rfl⟩ := r; exact .int i t
  | .text _, _, _, k, _ => by cases k
  | .tup ks, _, u, .tup (a := a) (vs := vs) e t, r => by
    cases (show u = Value.ref a from r)
    obtain ⟨z, its, rv, p⟩ := ok a _ e
    obtain ⟨o, ho, hc, n, hd⟩ := id p
    exact .tup ho hc hd (by simpa using nesteds_of ok ks vs its t rv)
theorem nesteds_of {P : Program} {w : World} {H : Hp} {h : Heap} (ok : HOk P w H h) : ∀ (ks : List NestedKey) (vs : List V) (us : List Value), KIss H ks vs → Vals vs us → NestedAll h ks us
  | [], _, _, .nil, .nil => .nil
  | k :: ks, _, _, .cons h1 h2, .cons r t => .cons (nested_of ok k _ _ h1 r) (nesteds_of ok ks _ _ h2 t)
end
abbrev Ent := NestedKey × Addr × V
def KEnt (H : Hp) (e : Ent) : Prop := KIs H e.1 (.ref e.2.1) ∧ e.1.depth ≤ 8
theorem KEnt.is {P : Program} {w : World} {H : Hp} {h : Heap} (ok : HOk P w H h) {nk : NestedKey} {a : Addr} (k : KIs H nk (.ref a)) (hd : nk.depth ≤ 8) : (nestedKind P w).is h nk a :=
  ⟨nested_of ok nk _ _ k (show RelV (.ref a) (.ref a) from rfl), hd⟩
def valX (ents : List Ent) (k : NestedKey) : Option V := (ents.find? fun e => decide (e.1 = k)).map (·.2.2)
def putX (ents : List Ent) (k : NestedKey) (a : Addr) (v : V) : List Ent := if (valX ents k).isSome then ents.map (fun e => if e.1 = k then (e.1, e.2.1, v) else e) else ents ++ [(k, a, v)]
abbrev PX : Ent → NestedKey × Addr × Value → Prop := fun p q => p.1 = q.1 ∧ p.2.1 = q.2.1 ∧ RelV p.2.2 q.2.2
theorem relO_valX {k : NestedKey} : ∀ {ents : List Ent} {xs : List (NestedKey × Addr × Value)}, Paired PX ents xs → RelO (valX ents k) ((atKey xs k).map (·.2))
  | _, _, .nil => by simp [valX, atKey, RelO]
  | _, _, .cons (a := p) (b := q) (l₁ := l) (l₂ := m) r t => by
    have ih := relO_valX (k := k) t
    unfold valX atKey at ih ⊢
    rw [List.find?_cons, List.find?_cons, ← r.1]
    by_cases h : p.1 = k
    · rw [decide_eq_true h]; exact r.2.2
    · rw [decide_eq_false h]; exact ih
theorem Paired.map2 {α β γ δ : Type} {F : α → β → Prop} {G : γ → δ → Prop} {f : α → γ} {g : β → δ} : ∀ {l : List α} {m : List β}, Paired F l m → (∀ a b, F a b → G (f a) (g b)) → Paired G (l.map f) (m.map g)
  | _, _, .nil, _ => .nil
  | _, _, .cons r t, h => .cons (h _ _ r) (Paired.map2 t h)
theorem Paired.snoc {α β : Type} {F : α → β → Prop} {a : α} {b : β} (r : F a b) : ∀ {l : List α} {m : List β}, Paired F l m → Paired F (l ++ [a]) (m ++ [b])
  | _, _, .nil => .cons r .nil
  | _, _, .cons h t => .cons h (Paired.snoc r t)
theorem paired_put {k : NestedKey} {a : Addr} {v : V} {u : Value} {ents : List Ent} {xs : List (NestedKey × Addr × Value)} (h : Paired PX ents xs) (r : RelV v u) : Paired PX (putX ents k a v) (storedH xs k a u) := by
  have e := (relO_valX (k := k) h).isSome_eq
  rw [Option.isSome_map] at e
  unfold putX storedH
  rw [e]
  split
  · exact Paired.map2 h fun p q h1 => by
      unfold putAt
      rw [← h1.1]
      show PX (if p.1 = k then (p.1, p.2.1, v) else p) _
      by_cases hk : p.1 = k
      · rw [if_pos hk, if_pos hk]; exact ⟨rfl, h1.2.1, r⟩
      · rw [if_neg hk, if_neg hk]; exact h1
  · exact Paired.snoc ⟨rfl, rfl, r⟩ h
section
variable {P : Program} {w : World} {H : Hp} {h : Heap} {a : Addr} {ents : List Ent}
theorem dx_rd (ok : HOk P w H h) (e : Rd H a (dx P w a ents)) : DctRaw P w a ents h := (rd_of ok e : ObjOk P w H h a (.ext (DctRaw P w a ents))).1
theorem paired_mem {α β : Type} {F : α → β → Prop} : ∀ {l : List α} {m : List β}, Paired F l m → ∀ y ∈ m, ∃ x ∈ l, F x y
  | _, _, .nil, y, h => nomatch h
  | _, _, .cons r t, y, h => by
    rcases List.mem_cons.mp h with e | h
    · subst e; exact ⟨_, by simp, r⟩
    · obtain ⟨x, hx, q⟩ := paired_mem t y h; exact ⟨x, by simp [hx], q⟩
theorem paired_keys : ∀ {ents : List Ent} {xs : List (NestedKey × Addr × Value)}, Paired PX ents xs → ents.map (·.1) = xs.map (·.1)
  | _, _, .nil => rfl
  | _, _, .cons r t => by rw [List.map_cons, List.map_cons, r.1, paired_keys t]
theorem dx_at (ok : HOk P w H h) (e : Rd H a (dx P w a ents)) (ke : ∀ x ∈ ents, KEnt H x) : ents.length ≤ sizeLine ∧ (a == sysModules) = false ∧ ∃ xs, Paired PX ents xs ∧ h.DictOfH (nestedKind P w) a xs := by
  obtain ⟨z, y, nd, xs, r, o, es, ep, h1, h2, h3, h4⟩ := dx_rd ok e
  refine ⟨z, y, xs, r, o, es, ep, h1, h2, h3, h4, fun q hq => ?_, by rw [← paired_keys r]; exact nd⟩
  obtain ⟨p, hp, e1, e2, _⟩ := paired_mem r q hq
  have k := ke p hp
  rw [← e1, ← e2]
  exact KEnt.is ok k.1 k.2
theorem dx_new {H' : Hp} {h' : Heap} {xs : List (NestedKey × Addr × Value)} (z : ents.length ≤ sizeLine) (hd : (a == sysModules) = false) (r : Paired PX ents xs) (dd : h'.DictOfH (nestedKind P w) a xs) : ObjOk P w H' h' a (dx P w a ents) := by
  obtain ⟨o, es, ep, h1, h2, h3, h4, _, h5⟩ := dd
  refine ⟨⟨z, hd, by rw [paired_keys r]; exact h5, xs, r, o, es, ep, h1, h2, h3, h4⟩, ⟨o, h1⟩, fun g1 g2 hg k => ?_⟩
  obtain ⟨z, y, nd, xs, r, o, es, ep, h1, h2, h3, h4⟩ := hg
  exact ⟨z, y, nd, xs, r, o, es, ep, k o h1, h2, h3, h4⟩
end
theorem length_putX (ents : List Ent) (k : NestedKey) (b : Addr) (v : V) : (putX ents k b v).length ≤ ents.length + 1 := by
  unfold putX; split <;> simp
/-- what the dict at a holds at the key y -/
def XGet (P : Program) (w : World) (H : Hp) (a : Addr) (y : V) (r : Option V) : Prop :=
  ∃ ents nk b, Rd H a (dx P w a ents) ∧ (∀ x ∈ ents, KEnt H x) ∧ y = .ref b ∧ KEnt H (nk, b, .non) ∧ r = valX ents nk
def XPut (P : Program) (w : World) (H : Hp) (a : Addr) (y v : V) (H' : Hp) : Prop :=
  ∃ ents nk b, H a = some (dx P w a ents) ∧ (∀ x ∈ ents, KEnt H x) ∧ y = .ref b ∧ KEnt H (nk, b, .non) ∧ ents.length < sizeLine ∧ H' = upd H a (dx P w a (putX ents nk b v))
section
variable {X : Cx} {pins : List (Addr × Obj)} {σ : L2.St} {H : Hp} {s : Shared} {a : Addr} {y v d : V} {u r : Value} {o : Option V} {A : Around} {E : Value → Shared → Prop}
theorem room_x (hu : A.units + 9 < cLine) : (nestedKind X.prog X.w).room A.in1 := by show A.units + 1 + 8 < cLine; omega
theorem xd_getItem {Q : Value → Shared → Prop} (hu : A.units + 9 < cLine) (I : Inv X pins σ H s) (g : XGet X.prog X.w H a y (some v)) (ry : RelV y u) (h : ∀ w' s', Inv X pins σ H s' → RelV v w' → Q w' s') :
    wpAny (model X.prog X.w) A (getItem (.ref a) u) Q E s := by
  obtain ⟨ents, nk, b, e, ke, ey, kb, l⟩ := g
  subst ey
  cases (show u = Value.ref b from ry)
  obtain ⟨z, hd, xs, rel, dd⟩ := dx_at I.hok e ke
  obtain ⟨w', hw, rw'⟩ := RelO.some_of (v := v) (o := (atKey xs nk).map (·.2)) (by rw [l]; exact relO_valX rel)
  obtain ⟨p, hp, hp2⟩ := Option.map_eq_some_iff.mp hw
  refine wpAny_getItem_heap (room_x hu) (KEnt.is I.hok kb.1 kb.2) dd hp ?_
  rw [hp2]
  exact h w' _ (I.tok _) rw'
theorem xd_in {Q : Value → Shared → Prop} (hu : A.units + 9 < cLine) (I : Inv X pins σ H s) (g : XGet X.prog X.w H a y o) (ry : RelV y u) (h : ∀ s', Inv X pins σ H s' → Q (.bool o.isSome) s') :
    wpAny (model X.prog X.w) A (compareOp .In u (.ref a)) Q E s := by
  obtain ⟨ents, nk, b, e, ke, ey, kb, l⟩ := g
  subst ey
  cases (show u = Value.ref b from ry)
  obtain ⟨z, hd, xs, rel, dd⟩ := dx_at I.hok e ke
  refine wpAny_in_heap (room_x hu) (KEnt.is I.hok kb.1 kb.2) hd dd ?_
  have q := (relO_valX (k := nk) rel).isSome_eq
  rw [Option.isSome_map] at q
  rw [← q, ← l]
  exact h _ (I.tok _)
theorem xd_notIn {Q : Value → Shared → Prop} (hu : A.units + 9 < cLine) (I : Inv X pins σ H s) (g : XGet X.prog X.w H a y o) (ry : RelV y u) (h : ∀ s', Inv X pins σ H s' → Q (.bool (!o.isSome)) s') :
    wpAny (model X.prog X.w) A (compareOp .NotIn u (.ref a)) Q E s := by
  obtain ⟨ents, nk, b, e, ke, ey, kb, l⟩ := g
  subst ey
  cases (show u = Value.ref b from ry)
  obtain ⟨z, hd, xs, rel, dd⟩ := dx_at I.hok e ke
  refine wpAny_notIn_heap (room_x hu) (KEnt.is I.hok kb.1 kb.2) hd dd ?_
  have q := (relO_valX (k := nk) rel).isSome_eq
  rw [Option.isSome_map] at q
  rw [← q, ← l]
  exact h _ (I.tok _)
theorem xd_get2 {Q : Value → Shared → Prop} (hu : A.units + 9 < cLine) (I : Inv X pins σ H s) (g : XGet X.prog X.w H a y o) (ry : RelV y u) (rd : RelV d r) (h : ∀ w' s', Inv X pins σ H s' → RelV (o.getD d) w' → Q w' s') :
    wpAny (model X.prog X.w) A (call (.builtin "dict.get") [.ref a, u, r]) Q E s := by
  obtain ⟨ents, nk, b, e, ke, ey, kb, l⟩ := g
  subst ey
  cases (show u = Value.ref b from ry)
  obtain ⟨z, hd, xs, rel, dd⟩ := dx_at I.hok e ke
  refine call_meetsIn PySem.F.slot_dict_get dd.typeIs PySem.F.entry_dict_get (PySem.F.args_dict_get_3 _ _ _) (meetsH_dict_get_default (nestedKind X.prog X.w) a b hd r) ⟨room_x hu, nk, xs, KEnt.is I.hok kb.1 kb.2, dd, h _ _ (I.tok _) ?_⟩
  rw [l]
  exact (relO_valX (k := nk) rel).getD rd
theorem xd_setItem {H' : Hp} {Q : Unit → Shared → Prop} (hu : A.units + 9 < cLine) (I : Inv X pins σ H s) (g : XPut X.prog X.w H a y v H') (ry : RelV y u) (rv : RelV v r) (h : ∀ s', Inv X pins σ H' s' → Q () s') :
    wpAny (model X.prog X.w) A (setItem (.ref a) u r) Q E s := by
  obtain ⟨ents, nk, b, e, ke, ey, kb, l, eH⟩ := g
  subst ey eH
  cases (show u = Value.ref b from ry)
  obtain ⟨z, hd, xs, rel, dd⟩ := dx_at I.hok (.inl e) ke
  have hz : xs.length ≤ sizeLine := by rw [← Paired.length rel]; exact z
  have hl : (putX ents nk b v).length ≤ sizeLine := by have := length_putX ents nk b v; omega
  refine wpAny_setItem_heap (hsz := hz) (room_x hu) (KEnt.is I.hok kb.1 kb.2) dd fun h' dd' hs => h _ ?_
  obtain ⟨q, es, ep, hq, _⟩ := id dd'
  exact d_write I (by rw [e]; exact True.intro) hs ⟨q, hq⟩ (dx_new hl hd (paired_put rel rv) dd')
theorem xd_typeIs (I : Inv X pins σ H s) {ents : List Ent} (e : Rd H a (dx X.prog X.w a ents)) : s.TypeIs (.ref a) "dict" ∧ (∀ b, Value.ref a = .ref b → ∃ ob, s.heap.get? b = some ob ∧ ob.dict = none) ∧ (a == sysModules) = false := by
  obtain ⟨z, y, nd, xs, r, o, es, ep, h1, h2, h3, h4⟩ := dx_rd I.hok e
  refine ⟨⟨o, h1, h2.1⟩, fun b q => ?_, y⟩
  cases q
  exact ⟨o, h1, h2.2.1⟩
/-- {} -/
theorem dx_empty {P : Program} {w : World} {H : Hp} (h : Heap) (hb : sysModules < h.objs.size) : ObjOk P w H (h.push { cls := .type "dict", data := .dict #[] }) h.objs.size (dx P w h.objs.size []) :=
  dx_new (Nat.zero_le _) (beq_eq_false_iff_ne.mpr (Ne.symm (Nat.ne_of_lt hb))) .nil (Heap.DictOfH.new h)
end
end Sf
end

section
set_option Elab.async false
set_option maxRecDepth 100000
set_option linter.all false
/-! Sd2: dicts of the store: reading, writing. -/
namespace Sf
open PySem PySem.Spec PyProof.Rows L2

def keyEq (a b : D) : Bool := match D.key a, D.key b with
  | some x, some y => NestedKey.beq x y
  | _, _ => false
def isT : D → Bool
  | .tup _ => true
  | _ => false
def keyOk (k : D) : Bool := isT k && (match D.key k with
  | some nk => Nat.ble nk.depth 8
  | none => false)
def getX (kvs : List (D × D)) (k : D) : Option D := (kvs.find? fun p => keyEq p.1 k).map (·.2)
def putXD (kvs : List (D × D)) (k v : D) : List (D × D) := bif (getX kvs k).isSome then kvs.map (fun p => bif keyEq p.1 k then (p.1, v) else p) else kvs ++ [(k, v)]
def getI (kvs : List (Int × D)) (k : Int) : Option D := (kvs.find? fun p => decide (p.1 = k)).map (·.2)
def putI (kvs : List (Int × D)) (k : Int) (v : D) : List (Int × D) := bif (getI kvs k).isSome then kvs.map (fun p => bif decide (p.1 = k) then (p.1, v) else p) else kvs ++ [(k, v)]
theorem keyOk_ok {k : D} (h : keyOk k = true) : ∃ l nk, k = .tup l ∧ D.key k = some nk ∧ nk.depth ≤ 8 := by
  unfold keyOk at h
  rw [Bool.and_eq_true] at h
  obtain ⟨h1, h2⟩ := h
  cases k with
  | tup l =>
    cases q : D.key (.tup l) with
    | none => rw [q] at h2; cases h2
    | some nk => rw [q] at h2; exact ⟨l, nk, rfl, rfl, Nat.le_of_ble_eq_true h2⟩
  | _ => cases h1
section
variable {G : Pg} {B L ρ : List Addr} {S S' : Sto} {H : Hp}
theorem rks_kent : ∀ {kvs : List (D × D)} {ents : List Ent}, RKs G B ρ H kvs ents → ∀ e ∈ ents, KEnt H e
  | _, _, .nil, e, h => nomatch h
  | _, _, .cons h1 h2 h3 _ r, e, h => by
    rcases List.mem_cons.mp h with q | h
    · subst q; exact ⟨kis_rv _ _ _ h2 h1, h3⟩
    · exact rks_kent r e h
theorem rks_val {k : D} {nk : NestedKey} (hk : D.key k = some nk) : ∀ {kvs : List (D × D)} {ents : List Ent}, RKs G B ρ H kvs ents →
    (getX kvs k = none ∧ valX ents nk = none) ∨ ∃ d v, getX kvs k = some d ∧ valX ents nk = some v ∧ RV G.K B ρ H d v
  | _, _, .nil => .inl ⟨rfl, rfl⟩
  | _, _, .cons (k := k') (d := d) (nk := nk') (ka := ka) (v := v) h1 h2 h3 h4 r => by
    have ih := rks_val hk r
    have e : keyEq k' k = decide (nk' = nk) := by unfold keyEq; rw [h1, hk]; exact (NestedKey.decide_eq nk' nk).symm
    unfold getX valX at ih ⊢
    rw [List.find?_cons, List.find?_cons]
    show (_ ∧ _) ∨ _
    rw [e]
    by_cases c : nk' = nk
    · simp only [c, decide_true]; exact .inr ⟨d, v, rfl, rfl, h4⟩
    · simp only [c, decide_false]; exact ih
theorem rks_map {k d : D} {nk : NestedKey} {v : V} (hk : D.key k = some nk) (rv : RV G.K B ρ H d v) : ∀ {kvs : List (D × D)} {ents : List Ent}, RKs G B ρ H kvs ents →
    RKs G B ρ H (kvs.map fun p => bif keyEq p.1 k then (p.1, d) else p) (ents.map fun e => if e.1 = nk then (e.1, e.2.1, v) else e)
  | _, _, .nil => .nil
  | _, _, .cons (k := k') (d := d') (nk := nk') (ka := ka) (v := v') h1 h2 h3 h4 r => by
    have e : keyEq k' k = decide (nk' = nk) := by unfold keyEq; rw [h1, hk]; exact (NestedKey.decide_eq nk' nk).symm
    rw [List.map_cons, List.map_cons]
    simp only [e]
    by_cases c : nk' = nk
    · rw [decide_eq_true c, if_pos c]; exact .cons h1 h2 h3 rv (rks_map hk rv r)
    · rw [decide_eq_false c, if_neg c]; exact .cons h1 h2 h3 h4 (rks_map hk rv r)
theorem rks_app : ∀ {kvs kvs' : List (D × D)} {ents ents' : List Ent}, RKs G B ρ H kvs ents → RKs G B ρ H kvs' ents' → RKs G B ρ H (kvs ++ kvs') (ents ++ ents')
  | _, _, _, _, .nil, s => s
  | _, _, _, _, .cons h1 h2 h3 h4 r, s => .cons h1 h2 h3 h4 (rks_app r s)
theorem rks_put {k d : D} {nk : NestedKey} {ka : Addr} {v : V} (hk : D.key k = some nk) (rk : RV G.K B ρ H k (.ref ka)) (hd : nk.depth ≤ 8) (rv : RV G.K B ρ H d v) {kvs : List (D × D)} {ents : List Ent} (r : RKs G B ρ H kvs ents) :
    RKs G B ρ H (putXD kvs k d) (putX ents nk ka v) := by
  unfold putXD putX
  rcases rks_val hk r with ⟨h1, h2⟩ | ⟨d', v', h1, h2, _⟩
  · rw [h1, h2]
    exact rks_app r (.cons hk rk hd rv .nil)
  · rw [h1, h2]
    exact rks_map hk rv r
theorem rks_len : ∀ {kvs : List (D × D)} {ents : List Ent}, RKs G B ρ H kvs ents → kvs.length = ents.length
  | _, _, .nil => rfl
  | _, _, .cons _ _ _ _ r => by rw [List.length_cons, List.length_cons, rks_len r]
theorem ris_val {i : Int} : ∀ {kvs : List (Int × D)} {ents : List (L2.Key × V)}, RIs G B ρ H kvs ents →
    (getI kvs i = none ∧ valV ents (Sum.inl i) = none) ∨ ∃ d v, getI kvs i = some d ∧ valV ents (Sum.inl i) = some v ∧ RV G.K B ρ H d v
  | _, _, .nil => .inl ⟨rfl, rfl⟩
  | _, _, .cons (i := j) (d := d) (v := v) h4 r => by
    have ih := ris_val (i := i) r
    unfold getI valV at ih ⊢
    rw [List.find?_cons, List.find?_cons]
    have e : decide ((Sum.inl j : L2.Key) = Sum.inl i) = decide (j = i) := by simp
    show (_ ∧ _) ∨ _
    simp only [e]
    by_cases c : j = i
    · simp only [c, decide_true]; exact .inr ⟨d, v, rfl, rfl, h4⟩
    · simp only [c, decide_false]; exact ih
theorem ris_map {i : Int} {d : D} {v : V} (rv : RV G.K B ρ H d v) : ∀ {kvs : List (Int × D)} {ents : List (L2.Key × V)}, RIs G B ρ H kvs ents →
    RIs G B ρ H (kvs.map fun p => bif decide (p.1 = i) then (p.1, d) else p) (ents.map fun e => if e.1 = Sum.inl i then (e.1, v) else e)
  | _, _, .nil => .nil
  | _, _, .cons (i := j) (d := d') (v := v') h4 r => by
    rw [List.map_cons, List.map_cons]
    by_cases c : j = i
    · simp only [c, decide_true, if_true]; exact .cons rv (ris_map rv r)
    · have c' : ¬ ((Sum.inl j : L2.Key) = Sum.inl i) := fun z => c (by cases z; rfl)
      simp only [c, c', decide_false, if_false]; exact .cons h4 (ris_map rv r)
theorem ris_app : ∀ {kvs kvs' : List (Int × D)} {ents ents' : List (L2.Key × V)}, RIs G B ρ H kvs ents → RIs G B ρ H kvs' ents' → RIs G B ρ H (kvs ++ kvs') (ents ++ ents')
  | _, _, _, _, .nil, s => s
  | _, _, _, _, .cons h4 r, s => .cons h4 (ris_app r s)
theorem any_valV {κ : Type} [DecidableEq κ] (kvs : List (κ × V)) (k : κ) : (kvs.any fun kv => decide (kv.1 = k)) = (valV kvs k).isSome := by
  unfold valV
  induction kvs with
  | nil => rfl
  | cons p l ih =>
    rw [List.any_cons, List.find?_cons]
    by_cases c : p.1 = k
    · simp [c]
    · simp only [c, decide_false, Bool.false_or]; exact ih
theorem ris_put {i : Int} {d : D} {v : V} (rv : RV G.K B ρ H d v) {kvs : List (Int × D)} {ents : List (L2.Key × V)} (r : RIs G B ρ H kvs ents) : RIs G B ρ H (putI kvs i d) (putK ents (Sum.inl i) v) := by
  unfold putI putK
  rw [any_valV]
  rcases ris_val (i := i) r with ⟨h1, h2⟩ | ⟨d', v', h1, h2, _⟩
  · rw [h1, h2]; exact ris_app r (.cons rv .nil)
  · rw [h1, h2]; exact ris_map rv r
theorem ris_len : ∀ {kvs : List (Int × D)} {ents : List (L2.Key × V)}, RIs G B ρ H kvs ents → kvs.length = ents.length
  | _, _, .nil => rfl
  | _, _, .cons _ r => by rw [List.length_cons, List.length_cons, ris_len r]
theorem lk_rd {lk : Bool} {a : Addr} {u : HO} (h : LkAt L H lk a u) : Rd H a u := by
  unfold LkAt at h
  split at h
  · obtain ⟨_, od, e⟩ := h; exact .inr ⟨od, e⟩
  · exact .inl h
end
end Sf
end

section
set_option Elab.async false
set_option maxRecDepth 100000
set_option linter.all false
/-! Sd3: dicts: displays, d[k], k in d, d.get(k, x), d[k] = v. -/
namespace Sf
open PySem PySem.Spec PyProof.Rows L2
theorem RH.addX {G : Pg} {B ρ L : List Addr} {H : Hp} {S : Sto} {p : Addr} {ob : Ob} (R : RH G (p :: B) L ρ H S) (hb : p ∉ B) (q : RO G B L (ρ ++ [p]) H p ob) : RH G B L (ρ ++ [p]) H (S ++ [ob]) := by
  have hB : ∀ a, a ∈ B ∨ a ∈ ρ ++ [p] → a ∈ p :: B ∨ a ∈ ρ := fun a z => z.elim (fun z => .inl (List.mem_cons_of_mem _ z)) fun z => (List.mem_append.mp z).elim .inr fun z => .inl (by simp at z; rw [z]; exact List.mem_cons_self)
  have hp : ∀ (n : Nat) (a : Addr), ρ[n]? = some a → (ρ ++ [p])[n]? = some a := fun n a z => by rw [List.getElem?_append_left (List.getElem?_eq_some_iff.mp z).1]; exact z
  refine ⟨by simp [R.len], ?_, fun a ha => (List.mem_append.mp ha).elim (fun z q => R.dj a z (List.mem_cons_of_mem _ q)) fun z => by simp at z; rw [z]; exact hb, fun b hb => R.avo b (List.mem_cons_of_mem _ hb), R.lk, fun n a o h1 h2 => ?_⟩
  · rw [List.nodup_append]
    refine ⟨R.nd, by simp, fun a ha b hb => ?_⟩
    simp at hb; subst hb
    rintro rfl
    exact R.dj _ ha List.mem_cons_self
  · by_cases hn : n < ρ.length
    · rw [List.getElem?_append_left hn] at h1
      rw [List.getElem?_append_left (by rw [← R.len]; exact hn)] at h2
      exact (R.ob n a o h1 h2).re hB hp
    · have hn' : n = ρ.length := by
        have := (List.getElem?_eq_some_iff.mp h1).1
        simp at this; omega
      subst hn'
      rw [List.getElem?_append_right (Nat.le_refl _)] at h1
      rw [R.len, List.getElem?_append_right (Nat.le_refl _)] at h2
      simp at h1 h2
      subst h1; subst h2
      exact q
section
variable {prog : Program} {w : World} {K : Type} [DecidableEq K] {knd : HeapKind prog w K} {A : Around} {E : Value → Shared → Prop} {s : Shared} {env : Env}
/-- a display: the entries with their keys' places -/
theorem wpAny_Dict_pairsH1 {keys : List (Option Expr)} {values : List Expr} {pos : Pos} {Q : Value → Shared → Prop} (hu : knd.room A)
    (hall : keys.all (·.isSome) = true) (hl : keys.length = values.length) (h0 : keys ≠ []) (hlen : keys.length ≤ 15)
    (h : wpAny (model prog w) A (evalPairs (pairTrees keys values env pos)) (fun vs s₁ => ∃ ps, CarriesH knd s₁.heap vs ps ∧ s₁.heap.DictOfH knd s.heap.objs.size [] ∧
      ∀ h' tk, h'.DictOfH knd s.heap.objs.size (storedAllH [] ps) → Heap.SameBut s.heap.objs.size s₁.heap h' → Q (.ref s.heap.objs.size) { s₁ with heap := h', toks := tk }) E
      { s with heap := s.heap.push { cls := .type "dict", data := .dict #[] } }) :
    wpAny (model prog w) A (eval (.Dict keys values pos) env) Q E s := by
  have hn := pairTrees_length keys values env pos hall hl
  have hne : pairTrees keys values env pos ≠ [] := fun he => by rw [he] at hn; exact h0 (List.length_eq_zero_iff.mp hn.symm)
  rw [arm_eval_Dict, zip_pairTrees keys values env pos hall hl, dictDisplay_pairs _ hne (by rw [hn]; omega)]
  exact wpAny_bind (wpAny_standAt (wpAny_bind (wpAny_subDictH (knd := knd) (Q := fun d s' => wpAny (model prog w) A (pure (Value.ref d)) Q E s') hu (by rw [hn]; exact hlen)
    (wpAny_mono h (fun vs s₁ h₁ => by obtain ⟨ps, hc, hm, hq⟩ := h₁; exact ⟨ps, hc, hm, fun h' tk a b => wpAny_pure (hq h' tk a b)⟩) fun _ _ e => e))))
end
def fDct0 : FE := fun _ S => .ok (.loc S.length) (S ++ [.dct false []])
def fDki0 : FE := fun _ S => .ok (.loc S.length) (S ++ [.dki false []])
def fDct1 (fk fv : FE) : FE := fun env S => match fk env S with
  | .ok k S1 => (match fv env S1 with
    | .ok v S2 => bif keyOk k then .ok (.loc S2.length) (S2 ++ [.dct false [(k, v)]]) else .bad
    | _ => .bad)
  | _ => .bad
section
variable {X : Cx} {w : Wx} {pos : Pos}
theorem loc_last {ρ : List Addr} {S : Sto} {p : Addr} (h : ρ.length = S.length) : (ρ ++ [p])[S.length]? = some p := by
  rw [← h, List.getElem?_append_right (Nat.le_refl _)]; simp
theorem se_dct0 : SE X w (.Dict [] [] pos) fDct0 := ⟨fun pins s σ H Q I ⟨B, L, ρ, S, env, A, g⟩ =>
  wpAny_Dict_empty ⟨.ref s.heap.objs.size, _, I.laid (a := s.heap.objs.size) (o := dx X.prog X.w s.heap.objs.size []) (t' := s.toks) (fun _ _ q => Heap.get?_push_of_some _ q) (Nat.le_refl _) (dx_empty s.heap I.big), rfl, by
    have hp := I.hok.fresh (Nat.le_refl s.heap.objs.size)
    exact g _ (ρ ++ [s.heap.objs.size]) _ (Post.newL hp) (A.rh.newL hp ⟨[], upd_same, .nil⟩) (.loc (loc_last A.rh.len))⟩⟩
theorem se_dki0 : SE X w (.Dict [] [] pos) fDki0 := ⟨fun pins s σ H Q I ⟨B, L, ρ, S, env, A, g⟩ =>
  wpAny_Dict_empty ⟨.ref s.heap.objs.size, _, I.laid (a := s.heap.objs.size) (o := .dK []) (t' := s.toks) (fun _ _ q => Heap.get?_push_of_some _ q) (Nat.le_refl _) (dk_empty s.heap I.big), rfl, by
    have hp := I.hok.fresh (Nat.le_refl s.heap.objs.size)
    exact g _ (ρ ++ [s.heap.objs.size]) _ (Post.newL hp) (A.rh.newL hp ⟨[], upd_same, .nil⟩) (.loc (loc_last A.rh.len))⟩⟩
theorem se_dct1 {k v : Expr} {fk fv : FE} (hu : X.A.units + 9 < cLine) (hk : SE X w k fk) (hv : SE X w v fv) : SE X w (.Dict [some k] [v] pos) (fDct1 fk fv) := by
  refine ⟨fun pins s σ H Q I ⟨B, L, ρ, S, env, A, g⟩ => ?_⟩
  have hp := I.hok.fresh (Nat.le_refl s.heap.objs.size)
  have I1 := I.laid (a := s.heap.objs.size) (o := dx X.prog X.w s.heap.objs.size []) (h' := s.heap.push { cls := .type "dict", data := .dict #[] }) (t' := s.toks) (fun _ _ q => Heap.get?_push_of_some _ q) (Nat.le_refl _) (dx_empty s.heap I.big)
  generalize hpe : s.heap.objs.size = p at *
  have hpB : p ∉ B := (A.rh.fresh hp).2
  have hpρ : p ∉ ρ := (A.rh.fresh hp).1
  have hpL : p ∉ L := fun z => by obtain ⟨o, u, q⟩ := A.rh.lk p z; rw [hp] at q; cases q
  have A1 : At (pg X) (p :: B) L ρ S env σ (upd H p (dx X.prog X.w p [])) := ⟨A.rh.addB hp, A.re.addB hp⟩
  have P1 : Post L ρ H ρ (upd H p (dx X.prog X.w p [])) := Post.newV hp
  unfold fDct1 at g
  cases h1 : fk env S with
  | exc c S1 => rw [h1] at g; exact g.elim
  | bad => rw [h1] at g; exact g.elim
  | ok dk S1 =>
  rw [h1] at g
  simp only at g
  cases h2 : fv env S1 with
  | exc c S2 => rw [h2] at g; exact g.elim
  | bad => rw [h2] at g; exact g.elim
  | ok dv S2 =>
  rw [h2] at g
  simp only at g
  cases h3 : keyOk dk with
  | false => rw [h3] at g; exact g.elim
  | true =>
  rw [h3] at g
  obtain ⟨lk, nk, rfl, hnk, hd⟩ := keyOk_ok h3
  refine wpAny_Dict_pairsH1 (knd := nestedKind X.prog X.w) (show X.A.units + 8 < cLine by omega) (by simp) rfl (by simp) (by simp) ?_
  rw [hpe]
  refine pairTrees_cons_walk (thn (hk.run pins _ σ _ (fun x H' => ∃ ρ', Post L ρ (upd H p (dx X.prog X.w p [])) ρ' H' ∧ RH (pg X) (p :: B) L ρ' H' S1 ∧ RV X.K (p :: B) ρ' H' (.tup lk) x) I1 ⟨p :: B, L, ρ, S, env, A1, ?_⟩) fun u1 s1 ⟨x, H1, I2, r1, ρ1, P2, R2, rk⟩ =>
    thn (hv.run pins s1 σ H1 (fun y H' => ∃ ρ', Post L ρ1 H1 ρ' H' ∧ RH (pg X) (p :: B) L ρ' H' S2 ∧ RV X.K (p :: B) ρ' H' dv y) I2 ⟨p :: B, L, ρ1, S1, env, A1.step P2 R2, ?_⟩) fun u2 s2 ⟨y, H2, I3, r2, ρ2, P3, R3, rv⟩ => pairTrees_nil_walk ?_)
  · rw [h1]; exact fun v ρ' H' p' R r => ⟨ρ', p', R, r⟩
  · rw [h2]; exact fun v ρ' H' p' R r => ⟨ρ', p', R, r⟩
  · have rk2 := rk.mono P3
    cases rk2 with
    | @tup ka vs _ hka hks =>
    cases (show u1 = Value.ref ka from r1)
    have kb : KEnt H2 (nk, ka, y) := ⟨kis_rv _ _ _ (.tup hka hks) hnk, hd⟩
    have e2 : H2 p = some (dx X.prog X.w p []) := by
      have hp1 : p ∉ ρ1 := fun z => R2.dj p z List.mem_cons_self
      exact P3.ext p _ (.inl hp1) (P2.ext p _ (.inl hpρ) upd_same)
    have hp2 : p ∉ ρ2 := fun z => R3.dj p z List.mem_cons_self
    obtain ⟨z, hsy, xs, rel, dd⟩ := dx_at I3.hok (.inl e2) (fun e he => nomatch he)
    cases rel
    refine ⟨[(nk, ka, u2)], ⟨rfl, rfl, KEnt.is I3.hok kb.1 kb.2, trivial⟩, dd, fun h' tk dd' hs => ?_⟩
    obtain ⟨q, es, ep, hq, _⟩ := id dd'
    have I4 := d_write (t' := tk) I3 (a := p) (ob := dx X.prog X.w p [(nk, ka, y)]) (by rw [e2]; exact True.intro) hs ⟨q, hq⟩ (dx_new (by show 1 ≤ sizeLine; rw [sizeLine_eq]; omega) hsy (.cons ⟨rfl, rfl, r2⟩ .nil) dd')
    refine ⟨.ref p, _, I4, rfl, g _ (ρ2 ++ [p]) _ ?_ ((R3.av (u := dx X.prog X.w p [(nk, ka, y)]) List.mem_cons_self hpL).addX hpB ⟨[(nk, ka, y)], upd_same, ?_⟩) (.loc (loc_last R3.len))⟩
    · have P := (P1.trans P2).trans P3
      refine ⟨fun a u ha hu => ?_, ?_, fun a ha => ?_⟩
      · rw [upd_ne (ne_of_none hu hp)]; exact P.ext a u ha hu
      · obtain ⟨t, e⟩ := P.pre; exact ⟨t ++ [p], by rw [e, List.append_assoc]⟩
      · rcases List.mem_append.mp ha with ha | ha
        · exact P.new a ha
        · simp at ha; rw [ha]; exact .inr hp
    · have hB : ∀ a, a ∈ B ∨ a ∈ ρ2 ++ [p] → a ∈ p :: B ∨ a ∈ ρ2 := fun a z => z.elim (fun z => .inl (List.mem_cons_of_mem _ z)) fun z => (List.mem_append.mp z).elim .inr fun z => .inl (by simp at z; rw [z]; exact List.mem_cons_self)
      have hp' : ∀ (n : Nat) (a : Addr), ρ2[n]? = some a → (ρ2 ++ [p])[n]? = some a := fun n a z => by rw [List.getElem?_append_left (List.getElem?_eq_some_iff.mp z).1]; exact z
      exact .cons hnk (((RV.tup hka hks).av List.mem_cons_self).re hB hp') hd ((rv.av List.mem_cons_self).re hB hp') .nil
end
end Sf
end

section
set_option Elab.async false
set_option maxRecDepth 100000
set_option linter.all false
/-! Sd4: dicts: d[k], k in d, d.get(k, x), d[k] = v, d != {}. -/
namespace Sf
open PySem PySem.Spec PyProof.Rows L2
def findD (o k : D) (S : Sto) : Option (Option D) := match o with
  | .loc n => match S[n]? with
    | some (.dct _ kvs) => bif keyOk k then some (getX kvs k) else none
    | some (.dki _ kvs) => (match k with
      | .int i => some (getI kvs i)
      | _ => none)
    | _ => none
  | _ => none
def oGetX : Op2 := fun x y S => match findD x y S with
  | some (some d) => some (d, S)
  | _ => none
def oInX : Op2 := fun y x S => match findD x y S with
  | some r => some (.bl r.isSome, S)
  | none => none
def oNinX : Op2 := fun y x S => match findD x y S with
  | some r => some (.bl (!r.isSome), S)
  | none => none
def XDG (P : Program) (w : World) (H : Hp) (a : Addr) (y : V) (r : Option V) : Prop := XGet P w H a y r ∨ DGet H a y r
theorem findD_ok {G : Pg} {B L ρ : List Addr} {S : Sto} {H : Hp} {o k : D} {x y : V} {r : Option D} (R : RH G B L ρ H S) (ro : RV G.K B ρ H o x) (rk : RV G.K B ρ H k y) (e : findD o k S = some r) :
    ∃ a v, x = .ref a ∧ XDG G.P G.w H a y v ∧ ((r = none ∧ v = none) ∨ ∃ d u, r = some d ∧ v = some u ∧ RV G.K B ρ H d u) := by
  cases ro with
  | @loc n a h =>
    unfold findD at e
    simp only at e
    cases q : S[n]? with
    | none => rw [q] at e; cases e
    | some ob =>
      rw [q] at e
      cases ob with
      | dct lk kvs =>
        simp only at e
        cases hk : keyOk k with
        | false => rw [hk] at e; cases e
        | true =>
          rw [hk] at e; cases e
          obtain ⟨l, nk, rfl, hnk, hd⟩ := keyOk_ok hk
          obtain ⟨ents, h1, h2⟩ := R.ob n a _ h q
          cases rk with
          | @tup ka vs _ hka hks =>
          refine ⟨a, valX ents nk, rfl, .inl ⟨ents, nk, ka, lk_rd h1, rks_kent h2, rfl, ⟨kis_rv _ _ _ (.tup hka hks) hnk, hd⟩, rfl⟩, ?_⟩
          rcases rks_val hnk h2 with ⟨e1, e2⟩ | ⟨d, v, e1, e2, r⟩
          · exact .inl ⟨e1, e2⟩
          · exact .inr ⟨d, v, e1, e2, r⟩
      | dki lk kvs =>
        simp only at e
        cases rk with
        | int i =>
          cases e
          obtain ⟨ents, h1, h2⟩ := R.ob n a _ h q
          refine ⟨a, valV ents (Sum.inl i), rfl, .inr (.inl ⟨ents, Sum.inl i, lk_rd h1, rfl, rfl⟩), ?_⟩
          rcases ris_val (i := i) h2 with ⟨e1, e2⟩ | ⟨d, v, e1, e2, r⟩
          · exact .inl ⟨e1, e2⟩
          · exact .inr ⟨d, v, e1, e2, r⟩
        | _ => cases e
      | _ => cases e
  | _ => cases e
section
variable {X : Cx} {pins : List (Addr × Obj)} {σ : L2.St} {H : Hp} {s : Shared} {a : Addr} {y v d : V} {u r : Value} {o : Option V} {A : Around} {E : Value → Shared → Prop}
theorem xdg_type (I : Inv X pins σ H s) (g : XDG X.prog X.w H a y o) : s.TypeIs (.ref a) "dict" := by
  rcases g with ⟨ents, nk, b, e, _⟩ | g
  · exact (xd_typeIs I e).1
  · exact dict_typeIs I g
theorem xdg_get {Q : Value → Shared → Prop} (hu : A.units + 9 < cLine) (I : Inv X pins σ H s) (g : XDG X.prog X.w H a y (some v)) (ry : RelV y u) (h : ∀ w' s', Inv X pins σ H s' → RelV v w' → Q w' s') :
    wpAny (model X.prog X.w) A (getItem (.ref a) u) Q E s := g.elim (fun g => xd_getItem hu I g ry h) fun g => d_getItem (by omega) I g ry h
abbrev rIxX (P : Program) (w : World) : R2 := fun x y H Q => ∃ a v, x = .ref a ∧ XDG P w H a y (some v) ∧ Q v H
theorem ix_x (hu : X.A.units + 9 < cLine) : IxR X (rIxX X.prog X.w) := by
  intro value slice pins s σ H x y v u Q I rx ry h hs
  obtain ⟨a, r, rfl, g, q⟩ := h
  cases (show v = Value.ref a from rx)
  exact tail_any (xdg_type I g) slot_dict_getitem.lookup (xdg_get hu I g ry fun w' s' I' r' => ⟨r, H, I', r', q⟩) hs
theorem op_inX (hu : X.A.units + 9 < cLine) : OpR X (compareOp .In) (fun y x H Q => ∃ a o, x = .ref a ∧ XDG X.prog X.w H a y o ∧ Q (.bl o.isSome) H) := by
  intro pins s σ H y x v u Q I ry rx h
  obtain ⟨a, o, rfl, g, q⟩ := h
  cases (show u = Value.ref a from rx)
  exact g.elim (fun g => xd_in hu I g ry fun s' I' => ⟨.bl o.isSome, H, I', rfl, q⟩) fun g => d_in (by omega) I g ry fun s' I' => ⟨.bl o.isSome, H, I', rfl, q⟩
theorem op_ninX (hu : X.A.units + 9 < cLine) : OpR X (compareOp .NotIn) (fun y x H Q => ∃ a o, x = .ref a ∧ XDG X.prog X.w H a y o ∧ Q (.bl (!o.isSome)) H) := by
  intro pins s σ H y x v u Q I ry rx h
  obtain ⟨a, o, rfl, g, q⟩ := h
  cases (show u = Value.ref a from rx)
  exact g.elim (fun g => xd_notIn hu I g ry fun s' I' => ⟨.bl (!o.isSome), H, I', rfl, q⟩) fun g => d_notIn (by omega) I g ry fun s' I' => ⟨.bl (!o.isSome), H, I', rfl, q⟩
theorem ok_getX : Ok2 (pg X) (rIxX X.prog X.w) oGetX := by
  intro B L ρ S S' H d1 d2 d' x y Q R r1 r2 e q
  unfold oGetX at e
  cases h : findD d1 d2 S with
  | none => rw [h] at e; cases e
  | some r =>
    rw [h] at e
    cases r with
    | none => cases e
    | some d =>
      cases e
      obtain ⟨a, v, rfl, g, k⟩ := findD_ok R r1 r2 h
      rcases k with ⟨k, _⟩ | ⟨d2, u, k1, k2, k3⟩
      · cases k
      · cases k1; subst k2
        exact ⟨a, u, rfl, g, here q R k3⟩
theorem ok_inX : Ok2 (pg X) (fun y x H Q => ∃ a o, x = .ref a ∧ XDG X.prog X.w H a y o ∧ Q (.bl o.isSome) H) oInX := by
  intro B L ρ S S' H d1 d2 d' x y Q R r1 r2 e q
  unfold oInX at e
  cases h : findD d2 d1 S with
  | none => rw [h] at e; cases e
  | some r =>
    rw [h] at e
    cases e
    obtain ⟨a, v, rfl, g, k⟩ := findD_ok R r2 r1 h
    refine ⟨a, v, rfl, g, ?_⟩
    have e : v.isSome = r.isSome := by rcases k with ⟨k1, k2⟩ | ⟨d2, u, k1, k2, k3⟩ <;> rw [k1, k2] <;> rfl
    rw [e]; exact here q R (.bl _)
theorem ok_ninX : Ok2 (pg X) (fun y x H Q => ∃ a o, x = .ref a ∧ XDG X.prog X.w H a y o ∧ Q (.bl (!o.isSome)) H) oNinX := by
  intro B L ρ S S' H d1 d2 d' x y Q R r1 r2 e q
  unfold oNinX at e
  cases h : findD d2 d1 S with
  | none => rw [h] at e; cases e
  | some r =>
    rw [h] at e
    cases e
    obtain ⟨a, v, rfl, g, k⟩ := findD_ok R r2 r1 h
    refine ⟨a, v, rfl, g, ?_⟩
    have e : v.isSome = r.isSome := by rcases k with ⟨k1, k2⟩ | ⟨d2, u, k1, k2, k3⟩ <;> rw [k1, k2] <;> rfl
    rw [e]; exact here q R (.bl _)
end
/-! d[k] = v -/
def setX (o k v : D) (S : Sto) : Option Sto := match o with
  | .loc n => match S[n]? with
    | some (.dct false kvs) => bif keyOk k && fitS kvs.length then some (S.set n (.dct false (putXD kvs k v))) else none
    | some (.dki false kvs) => (match k with
      | .int i => bif fitS kvs.length then some (S.set n (.dki false (putI kvs i v))) else none
      | _ => none)
    | _ => none
  | _ => none
def sAsgX (fe fo fi : FE) : FS := fun env S => (fe env S).bindS fun x S1 => (fo env S1).bindS fun o S2 => (fi env S2).bindS fun i S3 => match setX o i x S3 with
  | some S4 => .nx env S4
  | none => .bad
abbrev rSetX (P : Program) (w : World) : TSet := fun x y v H Q => ∃ a H', x = .ref a ∧ (XPut P w H a y v H' ∨ DPut H a y v H') ∧ Q H'
theorem set_x {X : Cx} (hu : X.A.units + 9 < cLine) : PSet X (rSetX X.prog X.w) := by
  intro pins s σ H o i v ov iv u Q I ro ri rv h
  obtain ⟨a, H', rfl, g, q⟩ := h
  cases (show ov = Value.ref a from ro)
  exact g.elim (fun g => xd_setItem hu I g ri rv fun s' I' => ⟨H', I', q⟩) fun g => d_setItem (by omega) I g ri rv fun s' I' => ⟨H', I', q⟩
theorem setX_ok {G : Pg} {B L ρ : List Addr} {S S' : Sto} {H : Hp} {o i v : D} {ov iv vv : V} {Q : Hp → Prop} (R : RH G B L ρ H S) (ro : RV G.K B ρ H o ov) (ri : RV G.K B ρ H i iv) (rv : RV G.K B ρ H v vv) (e : setX o i v S = some S')
    (q : ∀ H', Post L ρ H ρ H' → RH G B L ρ H' S' → Q H') : rSetX G.P G.w ov iv vv H Q := by
  cases ro with
  | @loc n a h =>
    unfold setX at e
    simp only at e
    cases q1 : S[n]? with
    | none => rw [q1] at e; cases e
    | some ob =>
      rw [q1] at e
      cases ob with
      | dct lk kvs =>
        cases lk with
        | true => cases e
        | false =>
        simp only at e
        cases hk : keyOk i && fitS kvs.length with
        | false => rw [hk] at e; cases e
        | true =>
          rw [hk] at e; cases e
          rw [Bool.and_eq_true] at hk
          obtain ⟨l, nk, rfl, hnk, hd⟩ := keyOk_ok hk.1
          obtain ⟨ents, h1, h2⟩ := R.ob n a _ h q1
          have h1 : H a = some (dx G.P G.w a ents) := h1
          have hl : a ∉ L := R.notL h1 fun _ _ z => nomatch z
          cases ri with
          | @tup ka vs _ hka hks =>
          refine ⟨a, _, rfl, .inl ⟨ents, nk, ka, h1, rks_kent h2, rfl, ⟨kis_rv _ _ _ (.tup hka hks) hnk, hd⟩, by rw [← rks_len h2]; exact fitS_lt hk.2, rfl⟩, ?_⟩
          exact q _ (Post.wr h hl) (R.wr h hl ⟨_, upd_same, RKs.mono (Post.wr (L := L) h hl) (rks_put hnk (.tup hka hks) hd rv h2)⟩)
      | dki lk kvs =>
        cases lk with
        | true => cases e
        | false =>
        simp only at e
        cases ri with
        | int j =>
          simp only at e
          cases hk : fitS kvs.length with
          | false => rw [hk] at e; cases e
          | true =>
            rw [hk] at e; cases e
            obtain ⟨ents, h1, h2⟩ := R.ob n a _ h q1
            have h1 : H a = some (.dK ents) := h1
            have hl : a ∉ L := R.notL h1 fun _ _ z => nomatch z
            refine ⟨a, _, rfl, .inr (.inl ⟨ents, Sum.inl j, h1, rfl, by rw [← ris_len h2]; exact fitS_lt hk, rfl⟩), ?_⟩
            exact q _ (Post.wr h hl) (R.wr h hl ⟨_, upd_same, RIs.mono (Post.wr (L := L) h hl) (ris_put rv h2)⟩)
        | _ => cases e
      | _ => cases e
  | _ => cases e
section
variable {X : Cx} {w : Wx} {e : Expr} {fe fo fi : FE} {pos : Pos}
theorem ss_setX {o i : Expr} {opos : Pos} (hu : X.A.units + 9 < cLine) (he : SE X w e fe) (ho : SE X w o fo) (hi : SE X w i fi) (hs : swapsWithSole [.Subscript o i opos] e pos.line X.env = pure false := by rfl) (hw : swappedStores [.Subscript o i opos] e X.env = pure none := by rfl)
    (h1 : (assignEach [.Subscript o i opos] X.env).map (·.2) = [assign (.Subscript o i opos) X.env] := by rfl)
    (ha : ∀ v, assign (.Subscript o i opos) X.env v = (do
      let ov ← holding [v] (eval o X.env)
      let iv ← holding [v, ov] (eval i X.env)
      standAt opos
      holding [v, ov, iv] (setItem ov iv v)
      release [v, ov, iv] []) := by intro _; rfl) : SS X w (.Assign [.Subscript o i opos] e pos) (sAsgX fe fo fi) :=
  PS.imp (ps_asg he (pg_sub ho hi (set_x hu) ha) hs hw h1) fun D σ H ⟨B, L, ρ, S, env, A, g⟩ =>
    tE_mono (tE_bindS3 A g) fun x H1 h => tE_mono h fun y H2 h => tE_mono h fun z H3 ⟨B, L, ρ, S, d, d', d'', A, r, r', r'', g⟩ => by
      cases hu : setX d' d'' d S with
      | none => rw [hu] at g; exact g.elim
      | some S' =>
        rw [hu] at g
        exact setX_ok A.rh r' r'' r hu fun H' p R => g σ ρ H' p R (A.re.mono p)
end
end Sf
end

section
set_option Elab.async false
set_option maxRecDepth 100000
set_option linter.all false
/-! Sd5: a dict is locked while its keys are walked. -/
namespace Sf
open PySem PySem.Spec PyProof.Rows L2 RZ
theorem RO.reL {G : Pg} {B L L' ρ : List Addr} {H : Hp} {a : Addr} {o : Ob} (k : a ∈ L → a ∈ L') (h : RO G B L ρ H a o) : RO G B L' ρ H a o := by
  cases o with
  | lst ds => exact h
  | dct lk kvs =>
    obtain ⟨ents, e, r⟩ := h
    refine ⟨ents, ?_, r⟩
    unfold LkAt at e ⊢
    split at e
    · rename_i hl; rw [if_pos hl]; exact ⟨k e.1, e.2⟩
    · rename_i hl; rw [if_neg hl]; exact e
  | dki lk kvs =>
    obtain ⟨ents, e, r⟩ := h
    refine ⟨ents, ?_, r⟩
    unfold LkAt at e ⊢
    split at e
    · rename_i hl; rw [if_pos hl]; exact ⟨k e.1, e.2⟩
    · rename_i hl; rw [if_neg hl]; exact e
  | ins fs => exact h
section
variable {G : Pg} {B L ρ ρ' : List Addr} {S S' : Sto} {H H' : Hp} {a : Addr} {n : Nat} {ob ob' : Ob} {od : Obj} {u : HO}
theorem nd_ne (R : RH G B L ρ H S) {m : Nat} {b : Addr} (h : ρ[n]? = some a) (h2 : ρ[m]? = some b) (hm : m ≠ n) : b ≠ a := by
  rintro rfl
  obtain ⟨l1, e1⟩ := List.getElem?_eq_some_iff.mp h
  obtain ⟨l2, e2⟩ := List.getElem?_eq_some_iff.mp h2
  exact hm ((List.getElem_inj R.nd).mp (e2.trans e1.symm))
theorem RH.lockX (R : RH G B L ρ H S) (h : ρ[n]? = some a) (hl : a ∉ L) (q : RO G B (a :: L) ρ (upd H a (.frz od u)) a ob') : RH G B (a :: L) ρ (upd H a (.frz od u)) (S.set n ob') where
  len := by simp [R.len]
  nd := R.nd
  dj := R.dj
  avo := fun b hb => let ⟨w, e⟩ := R.avo b hb; ⟨w, by rw [upd_ne (by rintro rfl; exact R.dj _ (List.mem_of_getElem? h) hb)]; exact e⟩
  lk := fun b hb => by
    by_cases e : b = a
    · subst e; exact ⟨_, _, upd_same⟩
    · obtain ⟨o, w, q⟩ := R.lk b ((List.mem_cons.mp hb).resolve_left e)
      exact ⟨o, w, by rw [upd_ne e]; exact q⟩
  ob := fun m b o h1 h2 => by
    by_cases hm : m = n
    · subst hm
      rw [h] at h1; cases h1
      have hn : m < S.length := by rw [← R.len]; exact (List.getElem?_eq_some_iff.mp h).1
      rw [List.getElem?_set_self hn] at h2; cases h2
      exact q
    · rw [List.getElem?_set_ne (Ne.symm hm)] at h2
      have hne := nd_ne R h h1 hm
      exact ((R.ob m b o h1 h2).mono (Post.wr h hl) (upd_ne hne)).reL (List.mem_cons_of_mem _)
theorem RH.unlockX (R : RH G B (a :: L) ρ H S) (h : ρ[n]? = some a) (hl : a ∉ L) (q : RO G B L ρ (upd H a u) a ob) : RH G B L ρ (upd H a u) (S.set n ob) where
  len := by simp [R.len]
  nd := R.nd
  dj := R.dj
  avo := fun b hb => let ⟨w, e⟩ := R.avo b hb; ⟨w, by rw [upd_ne (by rintro rfl; exact R.dj _ (List.mem_of_getElem? h) hb)]; exact e⟩
  lk := fun b hb => by
    obtain ⟨o, w, q⟩ := R.lk b (List.mem_cons_of_mem _ hb)
    exact ⟨o, w, by rw [upd_ne (by rintro rfl; exact hl hb)]; exact q⟩
  ob := fun m b o h1 h2 => by
    by_cases hm : m = n
    · subst hm
      rw [h] at h1; cases h1
      have hn : m < S.length := by rw [← R.len]; exact (List.getElem?_eq_some_iff.mp h).1
      rw [List.getElem?_set_self hn] at h2; cases h2
      exact q
    · rw [List.getElem?_set_ne (Ne.symm hm)] at h2
      have hne := nd_ne R h h1 hm
      exact ((R.ob m b o h1 h2).reL (L' := L) (fun z => (List.mem_cons.mp z).resolve_left hne)).mono (Post.wr h hl) (upd_ne hne)
/-- behind the lock: as if nothing had been locked -/
theorem post_unlock (h : ρ[n]? = some a) (hl : a ∉ L) (p : Post (a :: L) ρ (upd H a (.frz od u)) ρ' H') : H' a = some (.frz od u) ∧ Post L ρ H ρ' (upd H' a u) := by
  have ha := List.mem_of_getElem? h
  refine ⟨p.ext a _ (.inr List.mem_cons_self) upd_same, fun b w hb e => ?_, p.pre, fun b hb => ?_⟩
  · have hne : b ≠ a := by rintro rfl; exact hb.elim (fun z => z ha) hl
    rw [upd_ne hne]
    exact p.ext b w (hb.imp id (List.mem_cons_of_mem _)) (by rw [upd_ne hne]; exact e)
  · rcases p.new b hb with z | z
    · exact .inl z
    · by_cases e : b = a
      · subst e; exact .inl ha
      · rw [upd_ne e] at z; exact .inr z
end
def lkO : Ob → Option Ob
  | .dct false kvs => some (.dct true kvs)
  | .dki false kvs => some (.dki true kvs)
  | _ => none
def unSR (n : Nat) (ob : Ob) : SR → SR
  | .nx e S => .nx e (S.set n ob)
  | .bk e S => .bk e (S.set n ob)
  | .ct e S => .ct e (S.set n ob)
  | .rt d S => .rt d (S.set n ob)
  | _ => .bad
def unO {α : Type} (n : Nat) (ob : Ob) : Out α → Out α
  | .ok d S => .ok d (S.set n ob)
  | _ => .bad
def sLock (i : Nat) (f : FS) : FS := fun env S => match env[i]? with
  | some (.loc n) => (match S[n]? with
    | some ob => (match lkO ob with
      | some ob' => unSR n ob (f env (S.set n ob'))
      | none => .bad)
    | none => .bad)
  | _ => .bad
def fLock (i : Nat) (f : FE) : FE := fun env S => match env[i]? with
  | some (.loc n) => (match S[n]? with
    | some ob => (match lkO ob with
      | some ob' => unO n ob (f env (S.set n ob'))
      | none => .bad)
    | none => .bad)
  | _ => .bad
/-- what is needed to lock -/
theorem lock_at {G : Pg} {B L ρ : List Addr} {S : Sto} {H : Hp} {n : Nat} {a : Addr} {ob ob' : Ob} (R : RH G B L ρ H S) (h : ρ[n]? = some a) (q : S[n]? = some ob) (e : lkO ob = some ob') :
    a ∉ L ∧ ∃ u, H a = some u ∧ Mut (some u) ∧ (∀ od, RH G B (a :: L) ρ (upd H a (.frz od u)) (S.set n ob')) ∧ ∀ (ρ' : List Addr) (H' : Hp) (S' : Sto), ρ'[n]? = some a → Post L ρ H ρ' (upd H' a u) → RH G B (a :: L) ρ' H' S' → RH G B L ρ' (upd H' a u) (S'.set n ob) := by
  have ro := R.ob n a ob h q
  cases ob with
  | dct lk kvs =>
    cases lk with
    | true => cases e
    | false =>
      cases e
      obtain ⟨ents, h1, h2⟩ := ro
      have h1 : H a = some (dx G.P G.w a ents) := h1
      have hl : a ∉ L := R.notL h1 fun _ _ z => nomatch z
      refine ⟨hl, _, h1, trivial, fun od => R.lockX h hl ⟨ents, ?_, RKs.mono (Post.wr (L := L) h hl) h2⟩, fun ρ' H' S' h' p R' => R'.unlockX h' hl ⟨ents, ?_, RKs.mono p h2⟩⟩
      · unfold LkAt; rw [if_pos rfl]; exact ⟨List.mem_cons_self, od, upd_same⟩
      · exact upd_same
  | dki lk kvs =>
    cases lk with
    | true => cases e
    | false =>
      cases e
      obtain ⟨ents, h1, h2⟩ := ro
      have h1 : H a = some (.dK ents) := h1
      have hl : a ∉ L := R.notL h1 fun _ _ z => nomatch z
      refine ⟨hl, _, h1, trivial, fun od => R.lockX h hl ⟨ents, ?_, RIs.mono (Post.wr (L := L) h hl) h2⟩, fun ρ' H' S' h' p R' => R'.unlockX h' hl ⟨ents, ?_, RIs.mono p h2⟩⟩
      · unfold LkAt; rw [if_pos rfl]; exact ⟨List.mem_cons_self, od, upd_same⟩
      · exact upd_same
  | _ => cases e
section
variable {X : Cx} {w : Wx} {st : Stmt} {e : Expr} {f : FS} {fe : FE}
theorem ss_lock {i : Nat} (h : SS X w st f) : SS X w st (sLock i f) := PS.imp (ps_lock h) fun D σ H ⟨B, L, ρ, S, env, A, g⟩ => by
  unfold sLock at g
  cases h1 : env[i]? with
  | none => rw [h1] at g; exact g.elim
  | some d =>
  rw [h1] at g
  cases d with
  | loc n =>
    simp only at g
    rcases A.re.at' i _ h1 with z | ⟨v, _, rv⟩
    · cases z
    cases rv with
    | @loc _ a hn =>
    cases h2 : S[n]? with
    | none => rw [h2] at g; exact g.elim
    | some ob =>
    rw [h2] at g
    simp only at g
    cases h3 : lkO ob with
    | none => rw [h3] at g; exact g.elim
    | some ob' =>
    rw [h3] at g
    simp only at g
    obtain ⟨hl, u, hu, mu, lk, un⟩ := lock_at A.rh hn h2 h3
    refine ⟨a, u, hu, mu, fun od => ⟨B, a :: L, ρ, S.set n ob', env, ⟨lk od, A.re.mono (Post.wr (L := L) hn hl)⟩, ?_⟩⟩
    revert g
    have key : ∀ (ρ' : List Addr) (H' : Hp) (S' : Sto), Post (a :: L) ρ (upd H a (.frz od u)) ρ' H' → RH (pg X) B (a :: L) ρ' H' S' → H' a = some (.frz od u) ∧ Post L ρ H ρ' (upd H' a u) ∧ RH (pg X) B L ρ' (upd H' a u) (S'.set n ob) ∧ Post L ρ' H' ρ' (upd H' a u) := fun ρ' H' S' p R => by
      obtain ⟨p1, p2⟩ := post_unlock hn hl p
      exact ⟨p1, p2, un ρ' H' S' (p.at hn) p2 R, Post.wr (p.at hn) hl⟩
    cases f env (S.set n ob') with
    | nx e S' => exact fun g σ' ρ' H' p R re => let ⟨k1, k2, k3, k4⟩ := key ρ' H' S' p R; ⟨k1, g σ' ρ' _ k2 k3 (re.mono k4)⟩
    | bk e S' => exact fun g σ' ρ' H' p R re => let ⟨k1, k2, k3, k4⟩ := key ρ' H' S' p R; ⟨k1, g σ' ρ' _ k2 k3 (re.mono k4)⟩
    | ct e S' => exact fun g σ' ρ' H' p R re => let ⟨k1, k2, k3, k4⟩ := key ρ' H' S' p R; ⟨k1, g σ' ρ' _ k2 k3 (re.mono k4)⟩
    | rt d S' => exact fun g v ρ' H' p R rv => let ⟨k1, k2, k3, k4⟩ := key ρ' H' S' p R; ⟨k1, g v ρ' _ k2 k3 (rv.mono k4)⟩
    | xc c S' => exact fun g => g.elim
    | bad => exact fun g => g.elim
  | _ => exact g.elim
theorem se_lock {i : Nat} (h : SE X w e fe) : SE X w e (fLock i fe) := PE.imp (pe_lock h) fun σ H Q ⟨B, L, ρ, S, env, A, g⟩ => by
  unfold fLock at g
  cases h1 : env[i]? with
  | none => rw [h1] at g; exact g.elim
  | some d =>
  rw [h1] at g
  cases d with
  | loc n =>
    simp only at g
    rcases A.re.at' i _ h1 with z | ⟨v, _, rv⟩
    · cases z
    cases rv with
    | @loc _ a hn =>
    cases h2 : S[n]? with
    | none => rw [h2] at g; exact g.elim
    | some ob =>
    rw [h2] at g
    simp only at g
    cases h3 : lkO ob with
    | none => rw [h3] at g; exact g.elim
    | some ob' =>
    rw [h3] at g
    simp only at g
    obtain ⟨hl, u, hu, mu, lk, un⟩ := lock_at A.rh hn h2 h3
    refine ⟨a, u, hu, mu, fun od => ⟨B, a :: L, ρ, S.set n ob', env, ⟨lk od, A.re.mono (Post.wr (L := L) hn hl)⟩, ?_⟩⟩
    revert g
    have key : ∀ (ρ' : List Addr) (H' : Hp) (S' : Sto), Post (a :: L) ρ (upd H a (.frz od u)) ρ' H' → RH (pg X) B (a :: L) ρ' H' S' → H' a = some (.frz od u) ∧ Post L ρ H ρ' (upd H' a u) ∧ RH (pg X) B L ρ' (upd H' a u) (S'.set n ob) ∧ Post L ρ' H' ρ' (upd H' a u) := fun ρ' H' S' p R => by
      obtain ⟨p1, p2⟩ := post_unlock hn hl p
      exact ⟨p1, p2, un ρ' H' S' (p.at hn) p2 R, Post.wr (p.at hn) hl⟩
    cases fe env (S.set n ob') with
    | ok d S' => exact fun g v ρ' H' p R rv => let ⟨k1, k2, k3, k4⟩ := key ρ' H' S' p R; ⟨k1, g v ρ' _ k2 k3 (rv.mono k4)⟩
    | exc c S' => exact fun g => g.elim
    | bad => exact fun g => g.elim
  | _ => exact g.elim
end
end Sf
end

section
set_option Elab.async false
set_option maxRecDepth 100000
set_option linter.all false
/-! Sd6: for k in d; d.get(k, x); d != {}. -/
namespace Sf
open PySem PySem.Spec PyProof.Rows L2 RZ
theorem paired_get' {α β : Type} {G : α → β → Prop} {l₁ : List α} {l₂ : List β} (h : Paired G l₁ l₂) {i : Nat} {a : α} (e : l₁[i]? = some a) : ∃ b, l₂[i]? = some b ∧ G a b := paired_get h e
theorem frzX {X : Cx} {pins : List (Addr × Obj)} {σ : L2.St} {H : Hp} {s : Shared} {d : Addr} {o : Obj} {ents : List Ent} (I : Inv X pins σ H s) (h : H d = some (.frz o (dx X.prog X.w d ents))) :
    (d == sysModules) = false ∧ s.heap.get? d = some o ∧ o.ExactDict ∧ ∃ (es : Array DictEntry) (ep : Nat), o.data = .dict es ep ∧ es.size = ents.length ∧
      ∀ (i : Nat) (e : Ent), ents[i]? = some e → ∃ en : DictEntry, es[i]? = some en ∧ en.key = .ref e.2.1 := by
  obtain ⟨hd, ⟨z, hs, nd, xs, pr, o', es, ep, ho, hx, hdt, he⟩, _⟩ := I.hok d _ h
  rw [hd] at ho
  cases ho
  refine ⟨hs, hd, hx, es, ep, hdt, ?_, fun i e hi => ?_⟩
  · have l1 : es.size = xs.length := size_of_entries he
    have l2 : ents.length = xs.length := Paired.length pr
    omega
  · obtain ⟨b, hb, e1, e2, _⟩ := paired_get pr hi
    have q := entry_at he i
    rw [hb] at q
    exact ⟨_, q, by rw [e2]; rfl⟩
/-- the keys of the locked dict at d -/
def ItX (P : Program) (w : World) (d : Addr) (o : Obj) (ents : List Ent) : It :=
  ⟨fun i H => H d = some (.frz o (dx P w d ents)) ∧ i < ents.length, fun i H x H' => H' = H ∧ ∃ e, ents[i]? = some e ∧ x = .ref e.2.1, fun i H => H d = some (.frz o (dx P w d ents)) ∧ ents.length ≤ i⟩
theorem turn_keysX {P : Program} {w : World} {K : PySem.W.Frag} {tg : Expr} {d : Addr} {o : Obj} {es : Array DictEntry} {ep : Nat} {ents : List Ent} (it : Addr) (hod : o.data = .dict es ep) : Turn P w K tg (ItX P w d o ents) [it] it (fun i h => h.IsKeyIter it d i ents.length ep) where
  mem := by simp
  obj := fun i h st b hb => by
    have e : b = it := by simpa using hb
    subst e
    obtain ⟨oi, e, c, dd⟩ := st
    exact ⟨oi, e, fun v z => by rw [dd] at z; cases z⟩
  keep := fun i h h' st k => st.at fun oi e => k it (by simp) oi e
  item := by
    intro X hP hw hK hc i pins s σ H E I hf st hg
    subst hP hw hK
    obtain ⟨hd, hi⟩ := hg
    obtain ⟨f0, f1, f2, f3, f4, f5⟩ := hf it (by simp)
    obtain ⟨hs, hgd, hx, es', ep', hdt, hsz, ent⟩ := frzX I hd
    obtain ⟨rfl, rfl⟩ := dict_ep hod hdt
    obtain ⟨e, he⟩ : ∃ p, ents[i]? = some p := ⟨ents[i], List.getElem?_eq_getElem hi⟩
    obtain ⟨en, hen, hkey⟩ := ent i e he
    refine next_key_item st hgd hdt hsz hen fun h' st' sb => ?_
    have I1 : Inv X pins σ H { s with heap := h' } := I.turned (t' := s.toks) (fun b ob hb e => (sb.2 b hb).trans e) f0 f1 f3 f4 f5
    obtain ⟨oi, e', c, dd⟩ := id st'
    exact ⟨en.key, rfl, go_of (s := { s with heap := h' }) e' c dd (by decide) ⟨.ref e.2.1, H, I1, hkey, ⟨rfl, e, he, rfl⟩, st', fun b hb => (hf b hb).1⟩⟩
  done := by
    intro X hP hw hK hc i pins s σ H E I hf st hg
    subst hP hw hK
    obtain ⟨hd, hi⟩ := hg
    obtain ⟨f0, f1, f2, f3, f4, f5⟩ := hf it (by simp)
    obtain ⟨hs, hgd, hx, es', ep', hdt, hsz, ent⟩ := frzX I hd
    obtain ⟨rfl, rfl⟩ := dict_ep hod hdt
    exact next_key_end (I.ok.hd hc) st hgd hdt hsz hi fun h' eb => ⟨rfl, I.turned (t' := s.toks) (fun b ob hb e => eb b ob hb e) f0 f1 f3 f4 f5⟩
  self := fun A i s Q E st h => by
    refine wpAny_pyIter_slot st.typeIs F.slot_dict_keyiterator_iter (wpAny_call_entry F.slot_dict_keyiterator_iter st.typeIs F.entry_dict_keyiterator_iter ?_ (F.args_dict_keyiterator_iter_1 _))
    show wpAny _ _ (ret (.ref it)) _ _ s
    exact wpAny_pure ⟨_, rfl, "dict_keyiterator", _, st.typeIs, F.slot_dict_keyiterator_next.lookup, h⟩
def iKeysX (P : Program) (w : World) (td : TE) : TI := fun σ H R => td σ H fun x H1 => ∃ d o, x = .ref d ∧ ((∃ kvs, H1 d = some (.frz o (.dK kvs)) ∧ R (Itk d o kvs) H1) ∨ ∃ ents, H1 d = some (.frz o (dx P w d ents)) ∧ R (ItX P w d o ents) H1)
theorem pi_keysX {X : Cx} {tg e : Expr} {td : TE} (he : PE X e td) : PI X tg e (iKeysX X.prog X.w td) := by
  refine ⟨fun pins s σ H R I h => ?_⟩
  refine thn (he.run pins s σ H _ I h) fun u s1 ⟨x, H1, I1, rx, d, o, ex, q⟩ => ?_
  subst ex
  obtain rfl : u = Value.ref d := rx
  rcases q with ⟨kvs, hd, q⟩ | ⟨ents, hd, q⟩
  · obtain ⟨hs, hgd, hx, es, ep, vs, hdt, hsz, kv, hm⟩ := I1.frzK hd
    refine iter_keys hs hgd hx hdt (pi_one (tk := s1.toks) I1 _ (turn_keys _ hdt) ⟨_, Heap.get?_push_size _ rfl, rfl, ?_⟩ q)
    rw [hsz] <;> rfl
  · obtain ⟨hs, hgd, hx, es, ep, hdt, hsz, ent⟩ := frzX I1 hd
    refine iter_keys hs hgd hx hdt (pi_one (tk := s1.toks) I1 _ (turn_keysX _ hdt) ⟨_, Heap.get?_push_size _ rfl, rfl, ?_⟩ q)
    rw [hsz] <;> rfl
def iKeysD (fe : FE) : FA := fun env S => (fe env S).bind fun o S1 => match o with
  | .loc n => (match S1[n]? with
    | some (.dct true kvs) => .ok (kvs.map (·.1)) S1
    | some (.dki true kvs) => .ok (kvs.map fun p => .int p.1) S1
    | _ => .bad)
  | _ => .bad
theorem rks_get {G : Pg} {B ρ : List Addr} {H : Hp} : ∀ {kvs : List (D × D)} {ents : List Ent} {i : Nat} {d : D} {e : Ent}, RKs G B ρ H kvs ents → (kvs.map (·.1))[i]? = some d → ents[i]? = some e → RV G.K B ρ H d (.ref e.2.1)
  | _, _, i, _, _, .nil, h, _ => by simp at h
  | _, _, 0, _, _, .cons h1 h2 h3 h4 r, h, h' => by simp at h h'; subst h; subst h'; exact h2
  | _, _, i + 1, _, _, .cons h1 h2 h3 h4 r, h, h' => rks_get (i := i) r (by simpa using h) (by simpa using h')
theorem ris_get {G : Pg} {B ρ : List Addr} {H : Hp} : ∀ {kvs : List (Int × D)} {ents : List (L2.Key × V)} {i : Nat} {d : D} {k : L2.Key} {v : V}, RIs G B ρ H kvs ents → (kvs.map fun p => D.int p.1)[i]? = some d → ents[i]? = some (k, v) → RV G.K B ρ H d (kV k)
  | _, _, i, _, _, _, .nil, h, _ => by simp at h
  | _, _, 0, _, _, _, .cons h4 r, h, h' => by
    simp at h h'; subst h; obtain ⟨rfl, rfl⟩ := h'; exact .int _
  | _, _, i + 1, _, _, _, .cons h4 r, h, h' => ris_get (i := i) r (by simpa using h) (by simpa using h')
theorem RKs.addB' {G : Pg} {B ρ : List Addr} {H : Hp} {p : Addr} {o : HO} (hn : H p = none) : ∀ {kvs : List (D × D)} {ents : List Ent}, RKs G B ρ H kvs ents → RKs G (p :: B) ρ (upd H p o) kvs ents
  | _, _, .nil => .nil
  | _, _, .cons h1 h2 h3 h4 r => .cons h1 (h2.addB hn) h3 (h4.addB hn) (RKs.addB' hn r)
theorem RKs.av' {G : Pg} {B ρ : List Addr} {H : Hp} {p : Addr} {o : HO} (hp : p ∈ B) : ∀ {kvs : List (D × D)} {ents : List Ent}, RKs G B ρ H kvs ents → RKs G B ρ (upd H p o) kvs ents
  | _, _, .nil => .nil
  | _, _, .cons h1 h2 h3 h4 r => .cons h1 (h2.av hp) h3 (h4.av hp) (RKs.av' hp r)
theorem RIs.addB' {G : Pg} {B ρ : List Addr} {H : Hp} {p : Addr} {o : HO} (hn : H p = none) : ∀ {kvs : List (Int × D)} {ents : List (L2.Key × V)}, RIs G B ρ H kvs ents → RIs G (p :: B) ρ (upd H p o) kvs ents
  | _, _, .nil => .nil
  | _, _, .cons h4 r => .cons (h4.addB hn) (RIs.addB' hn r)
theorem RIs.av' {G : Pg} {B ρ : List Addr} {H : Hp} {p : Addr} {o : HO} (hp : p ∈ B) : ∀ {kvs : List (Int × D)} {ents : List (L2.Key × V)}, RIs G B ρ H kvs ents → RIs G B ρ (upd H p o) kvs ents
  | _, _, .nil => .nil
  | _, _, .cons h4 r => .cons (h4.av hp) (RIs.av' hp r)
section
variable {G : Pg} {L : List Addr}
theorem walk_keysX {d : Addr} {o : Obj} {ents : List Ent} {kvs : List (D × D)} (hd : d ∈ L) : WalkOk G L (ItX G.P G.w d o ents) (kvs.map (·.1)) (fun B ρ H => d ∉ B ∧ H d = some (.frz o (dx G.P G.w d ents)) ∧ RKs G B ρ H kvs ents) where
  mono := fun B ρ ρ' H H' p ⟨h0, h1, h2⟩ => ⟨h0, p.ext d _ (.inr hd) h1, h2.mono p⟩
  addB := fun B ρ H p u hn ⟨h0, h1, h2⟩ => ⟨fun z => (List.mem_cons.mp z).elim (fun z => by rw [z, hn] at h1; cases h1) h0, by rw [upd_ne (ne_of_none h1 hn)]; exact h1, RKs.addB' hn h2⟩
  av := fun B ρ H p u hp ⟨h0, h1, h2⟩ => ⟨h0, by rw [upd_ne (by rintro rfl; exact h0 hp)]; exact h1, RKs.av' hp h2⟩
  stop := fun B ρ H ⟨h0, h1, h2⟩ => ⟨h1, by rw [List.length_map, rks_len h2]; exact Nat.le_refl _⟩
  go := fun B ρ H i ⟨h0, h1, h2⟩ hi => ⟨h1, by rw [← rks_len h2]; simpa using hi⟩
  yld := fun B ρ S H H' i k x ⟨h0, h1, h2⟩ R e y => by
    obtain ⟨rfl, en, he, rfl⟩ := y
    exact ⟨Post.refl, R, rks_get h2 e he⟩
theorem walk_keysI {d : Addr} {o : Obj} {ents : List (L2.Key × V)} {kvs : List (Int × D)} (hd : d ∈ L) : WalkOk G L (Itk d o ents) (kvs.map fun p => D.int p.1) (fun B ρ H => d ∉ B ∧ H d = some (.frz o (.dK ents)) ∧ RIs G B ρ H kvs ents) where
  mono := fun B ρ ρ' H H' p ⟨h0, h1, h2⟩ => ⟨h0, p.ext d _ (.inr hd) h1, h2.mono p⟩
  addB := fun B ρ H p u hn ⟨h0, h1, h2⟩ => ⟨fun z => (List.mem_cons.mp z).elim (fun z => by rw [z, hn] at h1; cases h1) h0, by rw [upd_ne (ne_of_none h1 hn)]; exact h1, RIs.addB' hn h2⟩
  av := fun B ρ H p u hp ⟨h0, h1, h2⟩ => ⟨h0, by rw [upd_ne (by rintro rfl; exact h0 hp)]; exact h1, RIs.av' hp h2⟩
  stop := fun B ρ H ⟨h0, h1, h2⟩ => ⟨h1, by rw [List.length_map, ris_len h2]; exact Nat.le_refl _⟩
  go := fun B ρ H i ⟨h0, h1, h2⟩ hi => ⟨h1, by rw [← ris_len h2]; simpa using hi⟩
  yld := fun B ρ S H H' i k x ⟨h0, h1, h2⟩ R e y => by
    obtain ⟨rfl, kk, v, he, rfl⟩ := y
    exact ⟨Post.refl, R, ris_get h2 e he⟩
end
section
variable {X : Cx} {w : Wx} {tg e : Expr} {fe : FE}
theorem si_keysD (he : SE X w e fe) : SI X w tg e (iKeysD fe) := PI.imp (pi_keysX he) fun σ H R ⟨B, L, ρ, S, env, A, g⟩ => by
  refine ⟨B, L, ρ, S, env, A, ?_⟩
  revert g
  unfold iKeysD
  cases fe env S with
  | exc c S' => exact fun g => g
  | bad => exact fun g => g
  | ok d S' =>
    intro g v ρ' H' p RR r
    have g' := GO.step g p
    revert g'
    cases r with
    | @loc n a h =>
      simp only [Out.bind]
      cases q : S'[n]? with
      | none => exact fun g => g.elim
      | some ob =>
        have ro := RR.ob n a ob h q
        have hb : a ∉ B := RR.dj a (List.mem_of_getElem? h)
        cases ob with
        | dct lk kvs =>
          cases lk with
          | false => exact fun g => g.elim
          | true =>
            obtain ⟨ents, h1, h2⟩ := ro
            unfold LkAt at h1
            rw [if_pos rfl] at h1
            obtain ⟨hl, od, h1⟩ := h1
            exact fun g => ⟨a, od, rfl, .inr ⟨ents, h1, g _ ρ' H' Post.refl RR ⟨_, walk_keysX hl, hb, h1, h2⟩⟩⟩
        | dki lk kvs =>
          cases lk with
          | false => exact fun g => g.elim
          | true =>
            obtain ⟨ents, h1, h2⟩ := ro
            unfold LkAt at h1
            rw [if_pos rfl] at h1
            obtain ⟨hl, od, h1⟩ := h1
            exact fun g => ⟨a, od, rfl, .inl ⟨ents, h1, g _ ρ' H' Post.refl RR ⟨_, walk_keysI hl, hb, h1, h2⟩⟩⟩
        | _ => exact fun g => g.elim
    | _ => exact fun g => g.elim
end
/-! d.get(k, x) -/
def isDct (o : D) (S : Sto) : Bool := match o with
  | .loc n => match S[n]? with
    | some (.dct _ _) => true
    | some (.dki _ _) => true
    | _ => false
  | _ => false
def fGetX (fo fk fd : FE) : FE := fun env S => (fo env S).bind fun o S1 => bif isDct o S1 then (fk env S1).bind fun k S2 => (fd env S2).bind fun d S3 => (match findD o k S3 with
  | some r => .ok (r.getD d) S3
  | none => .bad) else .bad
def IsX (P : Program) (w : World) (H : Hp) (a : Addr) : Prop := (∃ kvs, Rd H a (.dK kvs)) ∨ ∃ ents, Rd H a (dx P w a ents)
theorem isX_at {X : Cx} {pins : List (Addr × Obj)} {σ : L2.St} {H : Hp} {s : Shared} {a : Addr} (I : Inv X pins σ H s) (d : IsX X.prog X.w H a) :
    s.TypeIs (.ref a) "dict" ∧ (∀ b, Value.ref a = .ref b → ∃ ob, s.heap.get? b = some ob ∧ ob.dict = none) := by
  rcases d with h | ⟨ents, e⟩
  · obtain ⟨h1, h2, _⟩ := isD_at I (.inl h); exact ⟨h1, h2⟩
  · obtain ⟨h1, h2, _⟩ := xd_typeIs I e; exact ⟨h1, h2⟩
def tXGet2 (P : Program) (w : World) (td ty tx : TE) : TE := fun σ H Q => td σ H fun x H1 => ∃ a, x = .ref a ∧ IsX P w H1 a ∧ ty σ H1 fun y H2 => tx σ H2 fun z H3 => ∃ o, XDG P w H3 a y o ∧ Q (o.getD z) H3
section
variable {X : Cx} {w : Wx} {o e f : Expr} {apos cpos : Pos} {td ty tx : TE} {fo fk fd : FE}
theorem pe_xget2 (hu : X.A.units + 9 < cLine) (ho : PE X o td) (he : PE X e ty) (hf : PE X f tx) (m : M2 X o "get" apos e f cpos) : PE X (.Call (.Attribute o "get" apos) [e, f] [] cpos) (tXGet2 X.prog X.w td ty tx) := by
  refine ⟨fun pins s σ H Q I h => ?_⟩
  refine wpAny_Call_method m.base m.few m.line PySem.F.plainAttrs_dict PySem.F.slot_dict_get PySem.F.type_dict_get (thn (ho.run pins s σ H _ I h) fun u s1 ⟨x, H1, I1, rx, a, ex, d, q1⟩ => ?_)
  subst ex
  obtain rfl : u = Value.ref a := rx
  obtain ⟨t1, t2⟩ := isX_at I1 d
  refine ⟨t1, t2, ?_⟩
  rw [m.trees]
  refine Calls.callWith_builtin rfl (Calls.evalArgs_plain (Calls.spliced_cons (thn (he.run pins s1 σ H1 _ I1 q1) fun iv s2 ⟨y, H2, I2, ry, q2⟩ =>
    Calls.spliced_cons (thn (hf.run pins s2 σ H2 _ I2 q2) fun fv s3 ⟨z, H3, I3, rz, ov, g, q3⟩ => Calls.spliced_nil ?_))))
  exact g.elim (fun g => xd_get2 hu I3 g ry rz fun w' s4 I4 rw' => ⟨_, H3, I4, rw', q3⟩) fun g => d_get2 (by omega) I3 g ry rz fun w' s4 I4 rw' => ⟨_, H3, I4, rw', q3⟩
theorem se_getX (hu : X.A.units + 9 < cLine) (ho : SE X w o fo) (he : SE X w e fk) (hf : SE X w f fd) (m : M2 X o "get" apos e f cpos) : SE X w (.Call (.Attribute o "get" apos) [e, f] [] cpos) (fGetX fo fk fd) :=
  PE.imp (pe_xget2 hu ho he hf m) fun σ H Q ⟨B, L, ρ, S, env, A, g⟩ => by
    refine ⟨B, L, ρ, S, env, A, ?_⟩
    revert g
    unfold fGetX
    cases fo env S with
    | exc c S' => exact fun g => g
    | bad => exact fun g => g
    | ok d S' =>
      intro g v ρ' H' p R r
      have g' := GO.step g p
      revert g'
      simp only [Out.bind]
      cases hd : isDct d S' with
      | false => exact fun g => g.elim
      | true =>
      intro g'
      have gg : GO (pg X) w.W w.xm B L ρ' H' σ (rD (pg X) B) ((fk env S').bind fun k S2 => (fd env S2).bind fun d' S3 => (match findD d k S3 with
        | some r => Out.ok (r.getD d') S3
        | none => .bad)) Q := g'
      cases r with
      | @loc n a h =>
        refine ⟨a, rfl, ?_, ?_⟩
        · unfold isDct at hd
          simp only at hd
          cases q : S'[n]? with
          | none => rw [q] at hd; cases hd
          | some ob =>
            rw [q] at hd
            have ro := R.ob n a ob h q
            cases ob with
            | dct lk kvs => obtain ⟨ents, h1, h2⟩ := ro; exact .inr ⟨ents, lk_rd h1⟩
            | dki lk kvs => obtain ⟨ents, h1, h2⟩ := ro; exact .inl ⟨ents, lk_rd h1⟩
            | _ => cases hd
        · refine ⟨B, L, ρ', S', env, A.step p R, ?_⟩
          revert gg
          cases fk env S' with
          | exc c S2 => exact fun g => g
          | bad => exact fun g => g
          | ok k S2 =>
            intro gg y ρ2 H2 p2 R2 r2
            have g2 : GO (pg X) w.W w.xm B L ρ2 H2 σ (rD (pg X) B) ((fd env S2).bind fun d' S3 => (match findD (.loc n) k S3 with
              | some r => Out.ok (r.getD d') S3
              | none => .bad)) Q := GO.step gg p2
            refine ⟨B, L, ρ2, S2, env, (A.step p R).step p2 R2, ?_⟩
            revert g2
            cases fd env S2 with
            | exc c S3 => exact fun g => g
            | bad => exact fun g => g
            | ok d' S3 =>
              intro g2 z ρ3 H3 p3 R3 r3
              have g3 : GO (pg X) w.W w.xm B L ρ3 H3 σ (rD (pg X) B) (match findD (.loc n) k S3 with
                | some r => Out.ok (r.getD d') S3
                | none => .bad) Q := GO.step g2 p3
              cases hf : findD (.loc n) k S3 with
              | none => rw [hf] at g3; exact g3.elim
              | some r =>
                rw [hf] at g3
                obtain ⟨a2, v2, e2, gx, kk⟩ := findD_ok R3 (RV.loc (p3.at (p2.at h))) (r2.mono p3) hf
                cases e2
                refine ⟨v2, gx, ?_⟩
                refine g3 _ ρ3 H3 Post.refl R3 ?_
                rcases kk with ⟨k1, k2⟩ | ⟨d2, u, k1, k2, k3⟩
                · rw [k1, k2]; exact r3
                · rw [k1, k2]; exact k3
      | _ => cases hd
end
end Sf
end

section
set_option Elab.async false
set_option maxRecDepth 100000
set_option linter.all false
/-! Sd7: d != {}. -/
namespace Sf
open PySem PySem.Spec PyProof.Rows L2
section
variable {prog : Program} {w : World} {A : Around} {E : Value → Shared → Prop} {s : Shared}
theorem samePairs0 {nm : String} {a b : Addr} {oa ob : Obj} {es : Array DictEntry} {ep ep' : Nat} {Q : Bool → Shared → Prop} (ha : (a == sysModules) = false) (hb : (b == sysModules) = false)
    (hoa : s.heap.get? a = some oa) (hda : oa.data = .dict es ep) (hob : s.heap.get? b = some ob) (hdb : ob.data = .dict #[] ep') (h : Q (es.size == 0) s) :
    wpAny (model prog w) A (Builtin.Dict.samePairs nm a b) Q E s := by
  unfold Builtin.Dict.samePairs Builtin.Dict.showsAll
  rw [if_neg (show ¬ (a == sysModules) = true by rw [ha]; exact Bool.false_ne_true), if_neg (show ¬ (b == sysModules) = true by rw [hb]; exact Bool.false_ne_true)]
  refine wpAny_bind (wpAny_pure (wpAny_bind (wpAny_pure ?_)))
  refine wpAny_bind (wpAny_dictEntries hoa hda ?_)
  dsimp only
  refine wpAny_bind (wpAny_dictEntries hob hdb ?_)
  by_cases hsz : es.size = 0
  case neg =>
    rw [if_pos (by simpa using hsz)]
    have hbf : (es.size == 0) = false := by simpa using hsz
    rw [hbf] at h
    exact wpAny_bind (wpAny_rule (wpAny_pure h))
  case pos =>
    have h' : Q true s := by simpa [hsz] using h
    rw [if_neg (by rw [hsz]; simp)]
    refine wpAny_bind (wpAny_dictEpoch hoa hda ?_)
    refine wpAny_bind ?_
    rw [Std.Legacy.Range.forIn_eq_forIn_range']
    simp only [Std.Legacy.Range.size, Nat.sub_zero, Nat.add_sub_cancel, Nat.div_one]
    rw [hsz]
    exact wpAny_pure (wpAny_pure h')
theorem ne_empty {a b : Addr} {oa ob : Obj} {es : Array DictEntry} {ep ep' : Nat} {Q : Value → Shared → Prop} (ha : (a == sysModules) = false) (hb : (b == sysModules) = false)
    (hoa : s.heap.get? a = some oa) (xa : oa.ExactDict) (hda : oa.data = .dict es ep) (hob : s.heap.get? b = some ob) (xb : ob.ExactDict) (hdb : ob.data = .dict #[] ep') (hu : A.units < cLine) (h : Q (.bool (!(es.size == 0))) s) :
    wpAny (model prog w) A (compareOp .NotEq (.ref a) (.ref b)) Q E s := by
  have da : s.TypeIs (.ref a) "dict" := ⟨oa, hoa, xa.1⟩
  have db : s.TypeIs (.ref b) "dict" := ⟨ob, hob, xb.1⟩
  refine wpAny_richCompare_same_room (op := .NotEq) da db PySem.F.slot_dict_ne (wpAny_call_entry PySem.F.slot_dict_ne da PySem.F.entry_dict_ne ?_ (PySem.F.args_dict_ne_2 _ _)) hu
  show wpAny _ _ (Builtin.Dict.dictSlotArgs "__ne__" ⟨[.ref a, .ref b], []⟩ >>= _) _ _ s
  refine wpAny_bind ?_
  unfold Builtin.Dict.dictSlotArgs
  refine wpAny_bind (wpAny_notOrdered_dict da ?_)
  show wpAny _ _ (pure (Value.ref a, Value.ref b)) _ _ s
  refine wpAny_pure ?_
  refine wpAny_bind (wpAny_isInstance (T := "dict") db PySem.F.sub_dict_dict ?_)
  simp only [Bool.not_true, Bool.false_eq_true, if_false]
  refine wpAny_bind (wpAny_pure (wpAny_bind (wpAny_pure ?_)))
  refine wpAny_bind (samePairs0 ha hb hoa hda hob hdb ?_)
  refine wpAny_pure ⟨_, rfl, ?_, ?_⟩
  · exact fun x => nomatch x
  · simpa using h
end
def rNeE (P : Program) (w : World) : R2 := fun x y H Q => ∃ a b ents, x = .ref a ∧ y = .ref b ∧ Rd H a (dx P w a ents) ∧ Rd H b (dx P w b []) ∧ Q (.bl (!(ents.length == 0))) H
theorem op_neE {X : Cx} (hu : X.A.units < cLine) : OpR X (compareOp .NotEq) (rNeE X.prog X.w) := by
  intro pins s σ H x y v u Q I rx ry h
  obtain ⟨a, b, ents, rfl, rfl, ea, eb, q⟩ := h
  cases (show v = Value.ref a from rx)
  cases (show u = Value.ref b from ry)
  obtain ⟨z, hs, nd, xs, r, o, es, ep, h1, h2, h3, h4⟩ := dx_rd I.hok ea
  obtain ⟨z', hs', nd', xs', r', o', es', ep', h1', h2', h3', h4'⟩ := dx_rd I.hok eb
  cases r'
  have e0 : es' = #[] := by
    have : es'.toList = [] := by rw [h4']; rfl
    exact Array.toList_eq_nil_iff.mp this
  subst e0
  refine ne_empty hs hs' h1 h2 h3 h1' h2' h3' hu ⟨.bl _, H, I, rfl, ?_⟩
  have l1 : es.size = xs.length := size_of_entries h4
  have l2 : ents.length = xs.length := Paired.length r
  rw [l1, ← l2]; exact q
def tDNewX (P : Program) (w : World) : TE := fun _ H Q => ∀ p, H p = none → Q (.ref p) (upd H p (dx P w p []))
def fNeE (fo : FE) : FE := fun env S => (fo env S).bind fun o S1 => match o with
  | .loc n => (match S1[n]? with
    | some (.dct _ kvs) => .ok (.bl (!(kvs.length == 0))) S1
    | _ => .bad)
  | _ => .bad
section
variable {X : Cx} {w : Wx} {a : Expr} {fa : FE} {p pos : Pos}
theorem pe_dnewX : PE X (.Dict [] [] p) (tDNewX X.prog X.w) := ⟨fun pins s σ H Q I h =>
  wpAny_Dict_empty ⟨.ref s.heap.objs.size, _, I.laid (a := s.heap.objs.size) (o := dx X.prog X.w s.heap.objs.size []) (t' := s.toks) (fun _ _ q => Heap.get?_push_of_some _ q) (Nat.le_refl _) (dx_empty s.heap I.big), rfl, h _ (I.hok.fresh (Nat.le_refl _))⟩⟩
theorem go_neE {σ : L2.St} {H : Hp} {Q : VK} (h : tE (pg X) w.W w.xm (fNeE fa) σ H Q) : tOp (rNeE X.prog X.w) (tE (pg X) w.W w.xm fa) (tDNewX X.prog X.w) σ H Q := by
  obtain ⟨B, L, ρ, S, env, A, g⟩ := h
  refine ⟨B, L, ρ, S, env, A, ?_⟩
  revert g
  unfold fNeE
  cases fa env S with
  | exc c S' => exact fun g => g
  | bad => exact fun g => g
  | ok d S' =>
    intro g v ρ' H' p R r
    have g' := GO.step g p
    revert g'
    cases r with
    | @loc n a h =>
      simp only [Out.bind]
      cases q : S'[n]? with
      | none => exact fun g => g.elim
      | some ob =>
        have ro := R.ob n a ob h q
        cases ob with
        | dct lk kvs =>
          obtain ⟨ents, h1, h2⟩ := ro
          intro g b hb
          have hne : a ≠ b := by
            obtain ⟨u, hu⟩ := R.there h
            exact ne_of_none hu hb
          refine ⟨a, b, ents, rfl, rfl, ?_, .inl upd_same, ?_⟩
          · rcases lk_rd h1 with z | ⟨o, z⟩
            · exact .inl (by rw [upd_ne hne]; exact z)
            · exact .inr ⟨o, by rw [upd_ne hne]; exact z⟩
          · rw [← rks_len h2]
            exact g _ ρ' _ (Post.newV hb) (R.newV hb) (.bl _)
        | _ => exact fun g => g.elim
    | _ => exact fun g => g.elim
theorem se_neE (hu : X.A.units < cLine) (ha : SE X w a fa) : SE X w (.Compare a [.NotEq] [.Dict [] [] p] pos) (fNeE fa) := PE.imp (pe_cmpR (op_neE hu) ha pe_dnewX rfl) fun σ H Q h => go_neE h
theorem st_neE (hu : X.A.units < cLine) (ha : SE X w a fa) : ST X w (.Compare a [.NotEq] [.Dict [] [] p] pos) (tVal (fNeE fa)) := by
  refine PT.imp (pt_cmpR (op_neE hu) ha pe_dnewX rfl) fun σ H Q ⟨B, L, ρ, S, env, A, gg⟩ => ?_
  have key : tE (pg X) w.W w.xm (fNeE fa) σ H fun x H1 => ∃ k, x = .bl k ∧ Q k H1 := by
    refine tE_mono (tE_bind (rel := fun _ => rB) (f := fNeE fa) A gg) fun x H1 ⟨B, L, ρ, S, d, A, r, g⟩ => ?_
    cases r with
    | bl c => exact ⟨c, rfl, GO.ok0 g A rfl⟩
    | _ => exact g.elim
  exact go_neE key
end
theorem hu9 {k : Nat} {A : Around} (hr : Room k A) : A.units + 9 < cLine := by have := hr.units; omega
theorem hu0 {k : Nat} {A : Around} (hr : Room k A) : A.units < cLine := by have := hr.units; omega
/-! f() -/
def fCall0 (F : Fn) : FE := fun _ S => F [] S
section
variable {X : Cx} {w : Wx} {k : Nat} {f : Addr} {fd : FuncData} {ps : List Str} {F : Fn} {x : Str} {p pos : Pos}
theorem se_call0 (FO : FnOk X.prog X.w X.K X.mg X.base (L2.CX X.prog X.w) k f fd ps (spOf (pg X) w.xm 0 F)) (tk : Takes X w.W) (hr : Room k X.A) (hm : X.mg x = some (.ref f)) (hk : PySem.W.keepIn X.K (.ref f) = true) (hb : Binds X.K fd ps [])
    (hg : Gl X x := by rfl) (hdb : (x == ("__debug__" : Str)) = false := by decide) : SE X w (.Call (.Name x p) [] [] pos) (fCall0 F) := by
  refine ⟨fun pins s σ H Q I ⟨B, L, ρ, S, env, A, g⟩ => ?_⟩
  refine wpAny_Call_Name_kw (ld_glob I hg hm ?_ hdb)
  refine PySem.W.callWith_K0 I.kIn hk (run_fnS (us := []) (E := WE w.W) FO hr hb (passAt tk σ) I .nil ⟨rfl, B, L, ρ, S, [], A.rh, .nil, ?_⟩)
  revert g
  unfold fCall0
  cases F [] S with
  | ok d S2 => exact fun g => g
  | exc c S2 => exact fun g => g
  | bad => exact fun g => g
end
end Sf
end

section
set_option Elab.async false
set_option maxRecDepth 100000
set_option linter.all false
/-! Sd8: x in a list or a tuple of flat values. -/
namespace Sf
open PySem PySem.Spec PyProof.Rows L2
def flatD : D → Bool
  | .non => true
  | .bl _ => true
  | .int _ => true
  | .str _ => true
  | _ => false
def eqD : D → D → Bool
  | .non, b => match b with
    | .non => true
    | _ => false
  | .bl a, b => match b with
    | .bl b => a == b
    | .int b => (if a then 1 else 0) == b
    | _ => false
  | .int a, b => match b with
    | .bl b => a == (if b then 1 else 0)
    | .int b => a == b
    | _ => false
  | .str a, b => match b with
    | .str b => a == b
    | _ => false
  | _, _ => false
def inD (x : D) (xs : List D) : Bool := xs.any fun y => eqD y x
def seqOf (y : D) (S : Sto) : Option (List D) := match y with
  | .tup l => some l
  | y => lsR y S
def oInG (neg : Bool) : Op2 := fun x y S => match seqOf y S with
  | some l => bif flatD x && l.all flatD then some (.bl (if neg then !inD x l else inD x l), S) else none
  | none => none
abbrev oIn : Op2 := oInG false
abbrev oNin : Op2 := oInG true
section
variable {K : PySem.W.Frag} {B ρ : List Addr} {H : Hp}
theorem flat_ok {d : D} {v : V} (r : RV K B ρ H d v) (h : flatD d = true) : flatV v = true := by
  cases r <;> first | rfl | (cases h; done)
theorem eqD_ok {d e : D} {v w : V} (r : RV K B ρ H d v) (r' : RV K B ρ H e w) (h : flatD d = true) (h' : flatD e = true) : eqV v w = eqD d e := by
  cases r <;> cases r' <;> first | rfl | (cases h; done) | (cases h'; done)
theorem flats_ok : ∀ {ds : List D} {vs : List V}, RVs K B ρ H ds vs → ds.all flatD = true → vs.all flatV = true
  | _, _, .nil, _ => rfl
  | _, _, .cons r t, h => by
    rw [List.all_cons, Bool.and_eq_true] at h
    rw [List.all_cons, flat_ok r h.1, flats_ok t h.2]; rfl
theorem inD_ok {d : D} {v : V} (r : RV K B ρ H d v) (hd : flatD d = true) : ∀ {ds : List D} {vs : List V}, RVs K B ρ H ds vs → ds.all flatD = true → inV v vs = inD d ds
  | _, _, .nil, _ => rfl
  | _, _, .cons r' t, h => by
    rw [List.all_cons, Bool.and_eq_true] at h
    have := inD_ok r hd t h.2
    unfold inV inD at this ⊢
    rw [List.any_cons, List.any_cons, eqD_ok r' r h.1 hd, this]
end
section
variable {X : Cx}
theorem ok_inG {neg : Bool} : Ok2 (pg X) (rIn X.K neg) (oInG neg) := by
  intro B L ρ S S' H d1 d2 d' x y Q R r1 r2 e q
  unfold oInG at e
  have key : ∀ (l : List D) (p : Addr) (xs : List V), RVs X.K B ρ H l xs → (SqL X.K H p xs ∨ SqT X.K H p xs) → y = .ref p →
      (bif flatD d1 && l.all flatD then some (D.bl (if neg then !inD d1 l else inD d1 l), S) else none) = some (d', S') → rIn X.K neg x y H Q := by
    intro l p xs rv hs ey e
    cases hf : (flatD d1 && l.all flatD) with
    | false => rw [hf] at e; cases e
    | true =>
      rw [hf] at e
      cases e
      rw [Bool.and_eq_true] at hf
      refine ⟨p, xs, ey, hs, flat_ok r1 hf.1, flats_ok rv hf.2, ?_⟩
      rw [inD_ok r1 hf.1 rv hf.2]
      exact here q R (.bl _)
  cases hq : seqOf d2 S with
  | none => rw [hq] at e; cases e
  | some l =>
    rw [hq] at e
    simp only at e
    cases r2 with
    | tup h r => cases hq; exact key _ _ _ r (.inr h.sq) rfl e
    | non => cases hq
    | bl b => cases hq
    | int i => cases hq
    | str s => cases hq
    | glob h => cases hq
    | lst h1 h2 h3 h4 => obtain ⟨a, vs, e1, e2, e3⟩ := lsR_ok R (.lst h1 h2 h3 h4) hq; exact key l a vs e3 (.inl e2) e1 e
    | scr h1 h2 => obtain ⟨a, vs, e1, e2, e3⟩ := lsR_ok R (.scr h1 h2) hq; exact key l a vs e3 (.inl e2) e1 e
    | loc h => obtain ⟨a, vs, e1, e2, e3⟩ := lsR_ok R (.loc h) hq; exact key l a vs e3 (.inl e2) e1 e
theorem opr_in : OpR X (compareOp .In) (rIn X.K false) := op_in_seq
theorem opr_nin : OpR X (compareOp .NotIn) (rIn X.K true) := op_notIn_seq
theorem ok_in : Ok2 (pg X) (rIn X.K false) oIn := ok_inG
theorem ok_nin : Ok2 (pg X) (rIn X.K true) oNin := ok_inG
end
end Sf
end

section
set_option Elab.async false
set_option maxRecDepth 100000
set_option linter.all false
/-! Sd9: max of a list of pairs of ints. -/
namespace Sf
open PySem PySem.Spec PyProof.Rows L2
def pairOf (d : D) : Option (Int × Int) := match d with
  | .tup l => match intsD l with
    | some [a, b] => some (a, b)
    | _ => none
  | _ => none
def prsD : List D → Option (List (Int × Int))
  | [] => some []
  | d :: r => match pairOf d, prsD r with
    | some p, some ps => some (p :: ps)
    | _, _ => none
def ltPr (a b : Int × Int) : Bool := decide (a.1 < b.1) || (decide (a.1 = b.1) && decide (a.2 < b.2))
def maxPr (x : Int × Int) (xs : List (Int × Int)) : Int × Int := xs.foldl (fun a y => if ltPr a y then y else a) x
def pairD (p : Int × Int) : D := .tup [.int p.1, .int p.2]
def oMaxP : OpN := fun xs S => match xs with
  | [x] => match lsR x S with
    | some l => match prsD l with
      | some (p :: ps) => some (pairD (maxPr p ps), S)
      | _ => none
    | none => none
  | _ => none
def pyP (p : Int × Int) : PyData := .tuple [.int p.1, .int p.2]
section
variable {G : Pg} {B ρ : List Addr} {H : Hp}
theorem intsD_inv : ∀ {l : List D} {ns : List Int}, intsD l = some ns → l = ns.map D.int
  | [], ns, e => by cases e; rfl
  | d :: r, ns, e => by
    cases d with
    | int i =>
      unfold intsD at e
      cases q : intsD r with
      | none => rw [q] at e; cases e
      | some ms => rw [q] at e; cases e; rw [intsD_inv q]; rfl
    | _ => unfold intsD at e; cases e
theorem dpAll_ints {K : PySem.W.Frag} : ∀ ns : List Int, DpAll K H (ns.map V.int) (ns.map PyData.int)
  | [] => .nil
  | i :: ns => .cons (.int i) (dpAll_ints ns)
theorem pairOf_ok {d : D} {v : V} {p : Int × Int} (h : RV G.K B ρ H d v) (e : pairOf d = some p) : d = pairD p ∧ Dp G.K H v (pyP p) := by
  unfold pairOf at e
  cases h with
  | @tup a ws ds h1 h2 =>
    simp only at e
    cases q : intsD ds with
    | none => rw [q] at e; cases e
    | some ns =>
      rw [q] at e
      match ns, q, e with
      | [x, y], q, e =>
        cases e
        have e1 := intsD_inv q
        have e2 := intsD_ok h2 q
        subst e1 e2
        exact ⟨rfl, .tup h1.sq (dpAll_ints [x, y])⟩
      | [], _, e => cases e
      | [_], _, e => cases e
      | _ :: _ :: _ :: _, _, e => cases e
  | _ => cases e
theorem prsD_ok : ∀ {l : List D} {ps : List (Int × Int)} {vs : List V}, RVs G.K B ρ H l vs → prsD l = some ps → l = ps.map pairD ∧ DpAll G.K H vs (ps.map pyP)
  | [], ps, _, .nil, e => by cases e; exact ⟨rfl, .nil⟩
  | d :: r, ps, _, .cons h t, e => by
    unfold prsD at e
    cases q1 : pairOf d with
    | none => rw [q1] at e; cases e
    | some p =>
      cases q2 : prsD r with
      | none => rw [q1, q2] at e; cases e
      | some ms =>
        rw [q1, q2] at e; cases e
        obtain ⟨a1, a2⟩ := pairOf_ok h q1
        obtain ⟨b1, b2⟩ := prsD_ok t q2
        exact ⟨by rw [a1, b1]; rfl, .cons a2 b2⟩
end
theorem dataLt_pr (a b : Int × Int) : PySem.W.dataLt (pyP a) (pyP b) = ltPr a b := by
  obtain ⟨a1, a2⟩ := a
  obtain ⟨b1, b2⟩ := b
  have e : ∀ x y : Int, PySem.W.keyToks (pyP (x, y)) = [.inl 1, .inl x, .inl 1, .inl y, .inl 0] := fun x y => by
    simp [pyP, PySem.W.keyToks, PySem.W.keyToksAll]
  have d : ∀ x y : Int, PyProof.Rows.lexLt itemOrd [.inl x] [.inl y] = decide (x < y) := fun x y => PySem.W.dataLt_int x y
  unfold PySem.W.dataLt
  rw [e, e]
  have s := fun (x : Int ⊕ List Nat) l m => lex_self (O := itemOrd) x l m
  rw [s]
  unfold ltPr
  by_cases h1 : a1 = b1
  · subst h1
    rw [s, s]
    by_cases h2 : a2 = b2
    · subst h2
      rw [s, d]; simp
    · rw [PySem.W.lex_atom (by intro z; cases z; exact h2 rfl), d]; simp
  · rw [PySem.W.lex_atom (by intro z; cases z; exact h1 rfl), d]; simp [h1]
theorem maxD_pr (p : Int × Int) : ∀ ps : List (Int × Int), PySem.W.maxD (pyP p) (ps.map pyP) = pyP (maxPr p ps) := by
  intro ps
  unfold PySem.W.maxD maxPr
  induction ps generalizing p with
  | nil => rfl
  | cons q r ih =>
    rw [List.map_cons, List.foldl_cons, List.foldl_cons, ← ih, dataLt_pr]
    cases ltPr p q <;> rfl
theorem alike_prs (ps : List (Int × Int)) : PySem.W.AlikeAll (ps.map pyP) := by
  refine ⟨fun x hx y hy => ?_, fun x hx => ?_⟩
  · obtain ⟨p, _, rfl⟩ := List.mem_map.mp hx
    obtain ⟨q, _, rfl⟩ := List.mem_map.mp hy
    simp [pyP, PySem.W.alike, PySem.W.alikeAll]
  · obtain ⟨p, _, rfl⟩ := List.mem_map.mp hx
    intro h; cases h
theorem depth_prs : ∀ ps : List (Int × Int), PyData.depthAll (ps.map pyP) ≤ 1
  | [] => by simp [PyData.depthAll]
  | p :: ps => by
    have := depth_prs ps
    rw [List.map_cons]
    unfold PyData.depthAll
    simp [pyP, PyData.depth, PyData.depthAll]
    omega
/-- max of a list of pairs -/
def rMaxPr (K : PySem.W.Frag) : List V → Hp → VK → Prop := fun vs H Q => ∃ (a : Addr) (xs : List V) (p : Int × Int) (ps : List (Int × Int)), vs = [.ref a] ∧ SqL K H a xs ∧ DpAll K H xs ((p :: ps).map pyP) ∧
  ∀ (i : Nat) (x : V), xs[i]? = some x → (p :: ps)[i]? = some (maxPr p ps) → Q x H
theorem pyP_inj {p q : Int × Int} (h : pyP p = pyP q) : p = q := by
  obtain ⟨a, b⟩ := p
  obtain ⟨c, d⟩ := q
  unfold pyP at h
  simp at h
  rw [h.1, h.2]
theorem callr_maxP {X : Cx} {k : Nat} (hc : X.calm = true) (hr : Room k X.A) : CallR X (.builtin "max") (rMaxPr X.K) := by
  intro pins s σ H vs us Q I r h
  obtain ⟨a, xs, p, ps, rfl, hs, hd, q⟩ := h
  obtain ⟨its, rv, hl, _⟩ := I.list hs
  rw [Vals.ref1 r]
  obtain ⟨as, rd⟩ := Dp.readsAll I _ _ its hd rv
  have hu := hr.units
  refine PySem.W.max_list_data (I.ok.hd hc) hl.isList (x := pyP p) (xs := ps.map pyP) (as := as) (by simpa using rd) (alike_prs (p :: ps)) (by have := depth_prs (p :: ps); have e : PyData.depthAll (pyP p :: ps.map pyP) ≤ 1 := this; omega) fun i v h' tk bs hv hR hk => ?_
  have hv' : its[i]? = some v := by simpa using hv
  obtain ⟨x, hx, rx⟩ : ∃ x, xs[i]? = some x ∧ RelV x v := by
    have key : ∀ {xs : List V} {us : List Value} {i : Nat} {v : Value}, Vals xs us → us[i]? = some v → ∃ x, xs[i]? = some x ∧ RelV x v := by
      intro xs us i v r
      induction r generalizing i with
      | nil => intro h; simp at h
      | cons h _ ih =>
        intro hv
        cases i with
        | zero => simp at hv; subst hv; exact ⟨_, rfl, h⟩
        | succ i => simpa using ih (by simpa using hv)
    exact key rv hv'
  obtain ⟨bs', r2, hlt, _, _⟩ := PySem.W.readsAll_at rd i v hv'
  have det := (PyProof.Rows.reads_det (fun b o e _ => hk b o e) r2 hR).1
  refine ⟨x, H, I.kept hk, rx, q i x hx ?_⟩
  rw [maxD_pr] at det
  rw [List.length_map] at hlt
  have e1 : ((p :: ps).map pyP).getD i .none = pyP ((p :: ps)[i]) := by
    rw [List.getD_eq_getElem?_getD, List.getElem?_map, List.getElem?_eq_getElem hlt]; rfl
  rw [e1] at det
  rw [List.getElem?_eq_getElem hlt, pyP_inj det.symm]
theorem ok_maxP {X : Cx} : OkN (pg X) (rMaxPr X.K) oMaxP := by
  intro B L ρ S S' H ds d' xs Q R r e q
  unfold oMaxP at e
  match ds, r, e with
  | [x], .cons r1 .nil, e =>
    simp only at e
    cases e1 : lsR x S with
    | none => rw [e1] at e; cases e
    | some l =>
      rw [e1] at e
      simp only at e
      cases e2 : prsD l with
      | none => rw [e2] at e; cases e
      | some ps =>
        rw [e2] at e
        cases ps with
        | nil => cases e
        | cons p ps =>
          cases e
          obtain ⟨a, vs, rfl, hs, rv⟩ := lsR_ok R r1 e1
          obtain ⟨el, hd⟩ := prsD_ok rv e2
          refine ⟨a, vs, p, ps, rfl, hs, hd, fun i x hx hi => ?_⟩
          have hli : l[i]? = some (pairD (maxPr p ps)) := by rw [el, List.getElem?_map, hi]; rfl
          obtain ⟨v, hv, rvv⟩ := rv.get hli
          rw [hx] at hv; cases hv
          exact here q R rvv
  | [], .nil, e => cases e
  | _ :: _ :: _, _, e => cases e
end Sf
end

section
set_option Elab.async false
set_option maxRecDepth 100000
set_option linter.all false
/-! Sd10: x[::-1] of a tuple or a list. -/
namespace HT
open PySem PyProof.Rows
section
variable {prog : Program} {w : World} {A : Around} {E : Value → Shared → Prop} {s : Shared}
theorem adjust_rev (n : Nat) : Builtin.Slice.sliceAdjust none none (-1) (n : Int) = ((n : Int) - 1, -1) := by
  unfold Builtin.Slice.sliceAdjust
  simp
theorem places_rev (n : Nat) : Builtin.Slice.slicePlaces ((n : Int) - 1) (-1) (-1) = n := by
  unfold Builtin.Slice.slicePlaces
  have h1 : ¬ ((-1 : Int) > 0) := by omega
  simp only [h1, if_false]
  rw [show (-(-1) : Int) = 1 by decide, Int.ediv_one]
  split <;> omega
theorem pick_rev (xs : Array Value) : ((List.range xs.size).filterMap fun (m : Nat) => xs[((xs.size : Int) - 1 + (m : Int) * -1).toNat]?).toArray = xs.toList.reverse.toArray := by
  rw [← PySem.W.krv_pick]
  unfold slicePick
  rw [PySem.W.krv_bounds]
  show _ = ((sliceRange ((xs.size : Int) - 1) (-1) (-1)).filterMap (xs[·]?)).toArray
  rw [PySem.W.krv_sliceRange, List.filterMap_map]
  congr 1
  have : ∀ l : List Nat, (∀ m ∈ l, m < xs.size) → l.filterMap (fun (m : Nat) => xs[((xs.size : Int) - 1 + (m : Int) * -1).toNat]?) = l.filterMap ((fun x => xs[x]?) ∘ fun k => xs.size - 1 - k) := by
    intro l
    induction l with
    | nil => intro _; rfl
    | cons m l ih =>
      intro h
      have hm := h m (by simp)
      have e : ((xs.size : Int) - 1 + (m : Int) * -1).toNat = xs.size - 1 - m := by omega
      rw [List.filterMap_cons, List.filterMap_cons, ih fun k hk => h k (by simp [hk]), e]
      rfl
  exact this _ fun m hm => List.mem_range.mp hm
theorem sliceApplied_rev {sl : Addr} {vl vu vs : Value} {n : Nat} {Q : Int × Int × Nat → Shared → Prop} (hs : s.heap.IsSliceOf sl vl vu vs) (pl : IsPart vl none) (pu : IsPart vu none) (ps : IsPart vs (some (-1)))
    (h : Q ((n : Int) - 1, -1, n) s) : wpAny (model prog w) A (Builtin.Slice.sliceApplied (.ref sl) (pure (n : Int))) Q E s := by
  obtain ⟨os, hos, hcs, hds⟩ := id hs
  unfold Builtin.Slice.sliceApplied Builtin.Slice.sliceFields
  refine wpAny_bind (wpAny_bind (wpAny_field hos hds (x := vl) rfl (wpAny_bind (wpAny_field hos hds (x := vu) rfl (wpAny_bind (wpAny_field hos hds (x := vs) rfl (wpAny_pure ?_)))))))
  refine wpAny_bind (slicePart_ ps ?_)
  show wpAny _ _ (if ((-1 : Int) == 0) = true then _ else _) _ _ s
  rw [if_neg (by decide)]
  refine wpAny_bind (slicePart_ pl (wpAny_bind (slicePart_ pu (wpAny_bind (wpAny_pure ?_)))))
  show wpAny _ _ (match Builtin.Slice.sliceAdjust none none (-1) (n : Int) with | (lo, hi) => pure (lo, (-1 : Int), Builtin.Slice.slicePlaces lo hi (-1))) _ _ s
  rw [adjust_rev n]
  show wpAny _ _ (pure ((n : Int) - 1, (-1 : Int), Builtin.Slice.slicePlaces ((n : Int) - 1) (-1) (-1))) _ _ s
  rw [places_rev]
  exact wpAny_pure h
theorem getItem_tuple_rev {t sl : Addr} {items : Array Value} {vl vu vs : Value} {Q : Value → Shared → Prop} (ht : IsTup s.heap t items) (hs : s.heap.IsSliceOf sl vl vu vs) (pl : IsPart vl none) (pu : IsPart vu none) (ps : IsPart vs (some (-1)))
    (h : Q (.ref s.heap.objs.size) { s with heap := s.heap.push { cls := .type "tuple", data := .seq items.toList.reverse.toArray } })
    (hsz : items.size ≤ sizeLine) : wpAny (model prog w) A (getItem (.ref t) (.ref sl)) Q E s := by
  have htake : sizeOk (.seq items.toList.reverse.toArray) := by
    show items.toList.reverse.toArray.size ≤ sizeLine
    rw [List.size_toArray, List.length_reverse, Array.length_toList]
    exact hsz
  obtain ⟨os, hos, hcs, hds⟩ := id hs
  have hTs : s.TypeIs (.ref sl) "slice" := ⟨os, hos, hcs⟩
  unfold getItem
  try with_reducible refine wpAny_holding ?_
  first | refine wpAny_bind (wpAny_pure ?_) | skip
  refine wpAny_bind (wpAny_sequenceKey ht.typeIs (by decide) ?_)
  refine wpAny_bind (wpAny_callSpecial?_slot (name := Str.ofString "__getitem__") ht.typeIs PyProof.Rows.slot_tuple_getitem
    (wpAny_call_entry PyProof.Rows.slot_tuple_getitem ht.typeIs entry_tuple_getitem ?_ (args_tuple_getitem _ _)))
  show wpAny _ _ (Builtin.Tuple.tupleItemsOf (.ref t) >>= _) _ _ s
  refine wpAny_bind (tupleItemsOf_ ht ?_)
  refine wpAny_bind (wpAny_typeOf hTs ?_)
  rw [if_pos (by decide)]
  refine wpAny_bind (sliceApplied_rev hs pl pu ps ?_)
  have hno : ¬ ((((items.size : Int) - 1) == 0 && (-1 : Int) == 1 && items.size == items.size) = true) := by
    intro q
    rw [Bool.and_eq_true, Bool.and_eq_true] at q
    exact absurd (eq_of_beq q.1.2) (by decide)
  show wpAny _ _ (if (((items.size : Int) - 1) == 0 && (-1 : Int) == 1 && items.size == items.size) = true then _ else _) _ _ s
  rw [if_neg hno, pick_rev]
  first
    | exact wpAny_bind (m := Builtin.Tuple.tupleExact _) (wpAny_newObj_type (wpAny_pure ⟨_, rfl, wpAny_pure h⟩) htake)
    | exact wpAny_bind (m := Builtin.Tuple.tupleExact _) (wpAny_newObj_type (wpAny_bind (wpAny_pure (wpAny_pure ⟨_, rfl, wpAny_pure h⟩))) htake)
    | exact wpAny_bind (wpAny_bind (m := Builtin.Tuple.tupleExact _) (wpAny_newObj_type (wpAny_pure (wpAny_pure ⟨_, rfl, wpAny_pure h⟩)) htake))
    | exact wpAny_bind (wpAny_bind (m := Builtin.Tuple.tupleExact _) (wpAny_newObj_type (wpAny_pure ⟨_, rfl, wpAny_pure h⟩) htake))
end
end HT
namespace L2
open PySem PySem.Spec PyProof.Rows
def tRevA (K : PySem.W.Frag) (te : TE) : TE := fun σ H Q => te σ H fun x H1 => ∃ a xs, x = .ref a ∧ ((SqL K H1 a xs ∧ ∀ p, H1 p = none → Q (.ref p) (upd H1 p (.lst xs.reverse))) ∨ (SqT K H1 a xs ∧ ∀ p, H1 p = none → Q (.ref p) (upd H1 p (.tup xs.reverse))))
section
variable {X : Cx}
theorem pe_revA {e : Expr} {te : TE} {k : Nat} {p1 p2 p3 pos : Pos} (he : PE X e te) : PE X (.Subscript e (.Slice none none (some (.UnaryOp .USub (.Constant (.int 1) k p1) p2)) p3) pos) (tRevA X.K te) := by
  refine ⟨fun pins s σ H Q I h => ?_⟩
  refine Subscript_ (thn (he.run pins s σ H _ I h) fun v s1 ⟨x, H1, I1, r1, q1⟩ => ?_)
  obtain ⟨a, xs, ex, hq⟩ := q1
  subst ex
  cases r1
  have hst : PO X (some (.UnaryOp .USub (.Constant (.int 1) k p1) p2)) (tPart (tUn (rU fun i => .int (-i)) (tC (.int 1)))) := po_some (pe_un un_neg pe_int)
  refine wpAny_Slice (thn (po_none.run pins s1 σ H1 (fun o H2 => o = none ∧ H2 = H1) I1 ⟨rfl, rfl⟩) fun vl s2 ⟨l, H2, I2, pl, el, e2⟩ => ?_)
  subst el e2
  refine thn (po_none.run pins s2 σ H2 (fun o H3 => o = none ∧ H3 = H2) I2 ⟨rfl, rfl⟩) fun vu s3 ⟨u, H3, I3, pu, eu, e3⟩ => ?_
  subst eu e3
  refine thn (hst.run pins s3 σ H3 (fun o H4 => o = some (-1) ∧ H4 = H3) I3 ⟨1, rfl, -1, rfl, rfl, rfl⟩) fun vs s4 ⟨o, H4, I4, ps, eo, e4⟩ => ?_
  subst eo e4
  have I5 : Inv X pins σ H4 { s4 with heap := s4.heap.push { cls := .type "slice", data := .fields #[vl, vu, vs] } } := I4.kept (t' := s4.toks) fun b ob q => Heap.get?_push_of_some _ q
  show wpAny (model X.prog X.w) X.A (subscriptTail e (.Slice none none (some (.UnaryOp .USub (.Constant (.int 1) k p1) p2)) p3) (.ref a) (.ref s4.heap.objs.size)) (EP X pins σ Q) X.xe { s4 with heap := s4.heap.push { cls := .type "slice", data := .fields #[vl, vu, vs] } }
  rcases hq with ⟨hx, q⟩ | ⟨hx, q⟩
  · obtain ⟨its, r, ht, hz⟩ := I5.list hx
    have hlen := r.length
    refine tail_any (ops := [.ref a, .ref s4.heap.objs.size]) ht.isList.typeIs (PySem.slot_list_getitem.lookup) ?_ (by with_unfolding_all rfl)
    refine wpAny_getItem_list_slice ht.isList (Heap.IsSliceOf.new _ vl vu vs) pl pu ps (by decide) ?_ (by rw [List.size_toArray]; omega)
    rw [PySem.W.krv_pick]
    refine ⟨.ref _, _, I5.laid (t' := s4.toks) (o := .lst xs.reverse) (fun b ob q => Heap.get?_push_of_some _ q) (Nat.le_refl _) ?_, rfl, q _ (I5.hok.fresh (Nat.le_refl _))⟩
    exact ⟨by rw [List.length_reverse]; exact hz, _, 0, r.reverse, Heap.get?_push_size _ rfl⟩
  · obtain ⟨its, r, ht, hz⟩ := I5.tuple hx
    have hlen := r.length
    refine tail_any (ops := [.ref a, .ref s4.heap.objs.size]) ht.typeIs (PyProof.Rows.slot_tuple_getitem.lookup) ?_ (by with_unfolding_all rfl)
    refine HT.getItem_tuple_rev ht (Heap.IsSliceOf.new _ vl vu vs) pl pu ps ?_ (by rw [List.size_toArray]; omega)
    refine ⟨.ref _, _, I5.laid (t' := s4.toks) (o := .tup xs.reverse) (fun b ob q => Heap.get?_push_of_some _ q) (Nat.le_refl _) ?_, rfl, q _ (I5.hok.fresh (Nat.le_refl _))⟩
    exact ⟨by rw [List.length_reverse]; exact hz, _, r.reverse, IsTup.new _ _⟩
end
end L2
namespace Sf
open PySem PySem.Spec PyProof.Rows L2
def oRevA (m : Bool) : Op1 := fun x S => match x with
  | .tup l => some (.tup l.reverse, S)
  | x => oRev m x S
section
variable {X : Cx} {w : Wx} {e : Expr} {fe : FE} {pos : Pos}
theorem se_revA {m : Bool} {k : Nat} {p1 p2 p3 : Pos} (he : SE X w e fe) : SE X w (.Subscript e (.Slice none none (some (.UnaryOp .USub (.Constant (.int 1) k p1) p2)) p3) pos) (fOp1 (oRevA m) fe) :=
  PE.imp (pe_revA he) fun σ H Q ⟨B, L, ρ, S, env, A, gg⟩ => go_op1 (X := X) (r := fun x H1 Q => ∃ a xs, x = .ref a ∧ ((SqL X.K H1 a xs ∧ ∀ p, H1 p = none → Q (.ref p) (upd H1 p (.lst xs.reverse))) ∨ (SqT X.K H1 a xs ∧ ∀ p, H1 p = none → Q (.ref p) (upd H1 p (.tup xs.reverse))))) (fun B L ρ S S' H d d' x Q R r e q => by
    have gen : oRev m d S = some (d', S') → ∃ a xs, x = .ref a ∧ ((SqL X.K H a xs ∧ ∀ p, H p = none → Q (.ref p) (upd H p (.lst xs.reverse))) ∨ (SqT X.K H a xs ∧ ∀ p, H p = none → Q (.ref p) (upd H p (.tup xs.reverse)))) := by
      intro e
      unfold oRev at e
      cases e1 : lsR d S with
      | none => rw [e1] at e; cases e
      | some l =>
        rw [e1] at e
        obtain ⟨a, vs, rfl, h1, h2⟩ := lsR_ok (G := pg X) R r e1
        exact ⟨a, vs, rfl, .inl ⟨h1, (mkL_ok R h2.reverse e q).2⟩⟩
    cases r with
    | @tup a vs ds h1 h2 =>
      cases e
      exact ⟨a, vs, rfl, .inr ⟨h1.sq, mkT_ok R h2.reverse q⟩⟩
    | _ => exact gen e) A gg
end
end Sf
end

section
set_option Elab.async false
set_option maxRecDepth 100000
set_option linter.all false
/-! Sp: the combinators as rules for simp. -/
namespace Sf
open PySem PySem.Spec PyProof.Rows L2
section
variable {α β : Type} {env : En} {S : Sto} {a b c : FE} {ft ft' : FT} {fs fr : FA} {f g : FS}
@[simp] theorem x_bind {x : α} {k : α → Sto → Out β} : (Out.ok x S).bind k = k x S := rfl
@[simp] theorem x_bindS {x : α} {k : α → Sto → SR} : (Out.ok x S).bindS k = k x S := rfl
@[simp] theorem x_bindN {k : En → Sto → SR} : (SR.nx env S).bindN k = k env S := rfl
@[simp] theorem x_bindNr {d : D} {k : En → Sto → SR} : (SR.rt d S).bindN k = .rt d S := rfl
@[simp] theorem x_bindNb {k : En → Sto → SR} : (SR.bk env S).bindN k = .bk env S := rfl
@[simp] theorem x_bindNc {k : En → Sto → SR} : (SR.ct env S).bindN k = .ct env S := rfl
@[simp] theorem x_var {i : Nat} : fVar i env S = match env[i]? with
  | some d => match d with
    | .und => .bad
    | d => .ok d S
  | none => .bad := rfl
@[simp] theorem x_con {d : D} : fCon d env S = .ok d S := rfl
@[simp] theorem x_outO {x : α} : outO (some (x, S)) = .ok x S := rfl
@[simp] theorem x_op1 {o : Op1} : fOp1 o a env S = (a env S).bind fun x S1 => outO (o x S1) := rfl
@[simp] theorem x_op2 {o : Op2} : fOp2 o a b env S = (a env S).bind fun x S1 => (b env S1).bind fun y S2 => outO (o x y S2) := rfl
@[simp] theorem x_nil : fNil env S = .ok [] S := rfl
@[simp] theorem x_cons : fCons a fs env S = (a env S).bind fun x S1 => (fs env S1).bind fun xs S2 => .ok (x :: xs) S2 := rfl
@[simp] theorem x_opN {o : OpN} : fOpN o fs env S = (fs env S).bind fun xs S1 => outO (o xs S1) := rfl
@[simp] theorem x_val : tVal a env S = (a env S).bind fun x S1 => match x with
  | .bl b => .ok b S1
  | _ => .bad := rfl
@[simp] theorem x_and : Sf.tAnd ft ft' env S = (ft env S).bind fun x S1 => bif x then ft' env S1 else .ok false S1 := rfl
@[simp] theorem x_or : Sf.tOr ft ft' env S = (ft env S).bind fun x S1 => bif x then .ok true S1 else ft' env S1 := rfl
@[simp] theorem x_not : Sf.tNot ft env S = (ft env S).bind fun x S1 => .ok (!x) S1 := rfl
@[simp] theorem x_if : fIf ft a b env S = (ft env S).bind fun x S1 => bif x then a env S1 else b env S1 := rfl
@[simp] theorem x_fand : fAnd a b env S = (a env S).bind fun x S1 => match x with
  | .bl c => bif c then b env S1 else .ok (.bl false) S1
  | _ => .bad := rfl
@[simp] theorem x_for : fOr a b env S = (a env S).bind fun x S1 => match x with
  | .bl c => bif c then .ok (.bl true) S1 else b env S1
  | _ => .bad := rfl
@[simp] theorem x_fnot : fNot a env S = (a env S).bind fun x S1 => match x with
  | .bl c => .ok (.bl (!c)) S1
  | _ => .bad := rfl
@[simp] theorem x_skip : sSkip env S = .nx env S := rfl
@[simp] theorem x_seq : sSeq f g env S = (f env S).bindN g := rfl
@[simp] theorem x_break : sBreak env S = .bk env S := rfl
@[simp] theorem x_cont : sCont env S = .ct env S := rfl
@[simp] theorem x_expr : sExpr a env S = (a env S).bindS fun _ S1 => .nx env S1 := rfl
@[simp] theorem x_ret : sRet a env S = (a env S).bindS fun x S1 => .rt x S1 := rfl
@[simp] theorem x_sif : sIf ft f g env S = (ft env S).bindS fun x S1 => bif x then f env S1 else g env S1 := rfl
@[simp] theorem x_asg {i : Nat} : sAsg i a env S = (a env S).bindS fun x S1 => .nx (env.set i x) S1 := rfl
@[simp] theorem x_asgT {is : List Nat} : sAsgT is a env S = (a env S).bindS fun x S1 => match unTup is x env with
  | some env' => .nx env' S1
  | none => .bad := rfl
@[simp] theorem x_unTup {is : List Nat} {l : List D} : unTup is (.tup l) env = bif Nat.beq l.length is.length then some (setAllE env is l) else none := rfl
@[simp] theorem x_set1 {i : Nat} {is : List Nat} {d : D} {l : List D} : setAllE env (i :: is) (d :: l) = setAllE (env.set i d) is l := rfl
@[simp] theorem x_set0 : setAllE env [] [] = env := rfl
@[simp] theorem x_par2 {i j : Nat} : sPar2 i j fs env S = (fs env S).bindS fun xs S1 => bif len2 xs then .nx (setAllE env [i, j] xs) S1 else .bad := rfl
@[simp] theorem x_par3 {i j k : Nat} : sPar3 i j k fs env S = (fs env S).bindS fun xs S1 => bif len3 xs then .nx (setAllE env [i, j, k] xs) S1 else .bad := rfl
@[simp] theorem x_len2 {x y : D} : len2 [x, y] = true := rfl
@[simp] theorem x_len3 {x y z : D} : len3 [x, y, z] = true := rfl
@[simp] theorem x_asgIx : sAsgIx a b c env S = (a env S).bindS fun x S1 => (b env S1).bindS fun o S2 => (c env S2).bindS fun i S3 => match setO o i x S3 with
  | some S4 => .nx env S4
  | none => .bad := rfl
@[simp] theorem x_aug {i : Nat} {o : Op2} : sAug i o a env S = (fVar i env S).bindS fun x S1 => (a env S1).bindS fun y S2 => match o x y S2 with
  | some (z, S3) => .nx (env.set i z) S3
  | none => .bad := rfl
@[simp] theorem x_augIx {o : Op2} : sAugIx o a b c env S = (a env S).bindS fun o' S1 => (b env S1).bindS fun i S2 => augK o c env o' i S2 := rfl
@[simp] theorem x_augK {o : Op2} {n : Nat} {k : Int} : augK o a env (.loc n) (.int k) S = match oIx (.loc n) (.int k) S with
    | some (x, S3) => (a env S3).bindS fun y S4 => augJ o env (.loc n) (.int k) x y S4
    | none => .bad := rfl
@[simp] theorem x_augJ {o : Op2} {d i x y : D} : augJ o env d i x y S = match o x y S with
  | some (z, S5) => sto env (setO d i z S5)
  | none => .bad := rfl
@[simp] theorem x_sto : sto env (some S) = .nx env S := rfl
@[simp] theorem x_tup : fTup fs env S = (fs env S).bind fun xs S1 => bif fit xs.length then .ok (.tup xs) S1 else .bad := rfl
@[simp] theorem x_lst {m : Bool} : fLst m fs env S = (fs env S).bind fun xs S1 => outO (mkL m xs S1) := rfl
@[simp] theorem x_call {F : Fn} : fCall F fs env S = (fs env S).bind fun ds S1 => F ds S1 := rfl
@[simp] theorem x_chain {p q : Int → Int → Bool} : fChain p q a b c env S = (a env S).bind fun x S1 => (b env S1).bind fun y S2 => match x, y with
  | .int i, .int j => bif p i j then (c env S2).bind fun z S3 => (match z with
      | .int k => .ok (.bl (q j k)) S3
      | _ => .bad) else .ok (.bl false) S2
  | _, _ => .bad := rfl
@[simp] theorem x_iSq : iSq a env S = (a env S).bind fun x S1 => match itemsD x with
  | some l => .ok l S1
  | none => .bad := rfl
@[simp] theorem x_iOf {k : List D → Option (List D)} : iOf k fs env S = (fs env S).bind fun xs S1 => match k xs with
  | some l => .ok l S1
  | none => .bad := rfl
@[simp] theorem x_tgName {i : Nat} {d : D} : tgName i d env = some (env.set i d) := rfl
@[simp] theorem x_for_ {g : D → En → Option En} : sFor fs g f env S = (fs env S).bindS fun l S1 => forL g f l env S1 := rfl
@[simp] theorem x_yes : tYesF env S = .ok true S := rfl
@[simp] theorem x_comp {m : Bool} {g : D → En → Option En} {vs : List Nat} : fComp m fs g ft a vs env S = (fs env S).bind fun l S1 => bif fit l.length then
  (match compL g ft a (undE env vs) l S1 with
  | .ok xs S2 => bif m then .ok (.loc S2.length) (S2 ++ [.lst xs]) else .ok (.lst xs) S2
  | _ => .bad) else .bad := rfl
@[simp] theorem x_und0 : undE env [] = env := rfl
@[simp] theorem x_und1 {v : Nat} {vs : List Nat} : undE env (v :: vs) = (undE env vs).set v .und := rfl
/-! the operations -/
@[simp] theorem x_add {m : Bool} {i j : Int} : oAdd m (.int i) (.int j) S = some (.int (i + j), S) := rfl
@[simp] theorem x_addI {i j : Int} : oAddI (.int i) (.int j) S = some (.int (i + j), S) := rfl
@[simp] theorem x_sub {i j : Int} : oSub (.int i) (.int j) S = some (.int (i - j), S) := rfl
theorem x_mul {m : Bool} {i j : Int} : oMul m (.int i) (.int j) S = bif mulOk i j then some (.int (i * j), S) else none := rfl
theorem x_mod {i j : Int} : oMod (.int i) (.int j) S = bif (decide (0 < j)) then some (.int (i % j), S) else none := rfl
theorem x_fdiv {i j : Int} : oFdiv (.int i) (.int j) S = bif (decide (0 < j)) && Nat.blt j.natAbs.log2 9000 then some (.int (i / j), S) else
      bif (decide (j < 0)) && Nat.blt j.natAbs.log2 9000 then some (.int (i.fdiv j), S) else none := rfl
@[simp] theorem x_neg {i : Int} : oNeg (.int i) S = some (.int (-i), S) := rfl
@[simp] theorem x_ixT {i : Int} {l : List D} : oIx (.tup l) (.int i) S = match ixD l i with
      | some d => some (d, S)
      | none => none := rfl
@[simp] theorem x_ixL {i : Int} {l : List D} : oIx (.lst l) (.int i) S = match ixD l i with
      | some d => some (d, S)
      | none => none := rfl
@[simp] theorem x_ixS {i : Int} {l : List D} : oIx (.scr l) (.int i) S = match ixD l i with
      | some d => some (d, S)
      | none => none := rfl
@[simp] theorem x_ix0 {l : List D} : ixD l 0 = l[0]? := rfl
@[simp] theorem x_ix1 {l : List D} : ixD l 1 = l[1]? := rfl
@[simp] theorem x_ix2 {l : List D} : ixD l 2 = l[2]? := rfl
@[simp] theorem x_ix3 {l : List D} : ixD l 3 = l[3]? := rfl
@[simp] theorem x_ix4 {l : List D} : ixD l 4 = l[4]? := rfl
@[simp] theorem x_gt {i j : Int} : oGt (.int i) (.int j) S = some (.bl (decide (j < i)), S) := rfl
@[simp] theorem x_ge {i j : Int} : oGe (.int i) (.int j) S = some (.bl (decide (j ≤ i)), S) := rfl
@[simp] theorem x_lt {i j : Int} : oLt (.int i) (.int j) S = some (.bl (decide (i < j)), S) := rfl
@[simp] theorem x_le {i j : Int} : oLe (.int i) (.int j) S = some (.bl (decide (i ≤ j)), S) := rfl
@[simp] theorem x_eqI {i j : Int} : oEq (.int i) (.int j) S = some (.bl (decide (i = j)), S) := rfl
@[simp] theorem x_neI {i j : Int} : oNe (.int i) (.int j) S = some (.bl (!decide (i = j)), S) := rfl
@[simp] theorem x_eqN {i : Int} : oEq (.int i) .non S = some (.bl false, S) := rfl
@[simp] theorem x_neN {i : Int} : oNe (.int i) .non S = some (.bl true, S) := rfl
@[simp] theorem x_eqN' {i : Int} : oEq .non (.int i) S = some (.bl false, S) := rfl
@[simp] theorem x_neN' {i : Int} : oNe .non (.int i) S = some (.bl true, S) := rfl
@[simp] theorem x_eqNN : oEq .non .non S = some (.bl true, S) := rfl
@[simp] theorem x_neNN : oNe .non .non S = some (.bl false, S) := rfl
@[simp] theorem x_isN {d : D} : oIs d .non S = some (.bl (isNon d), S) := rfl
@[simp] theorem x_isNN {d : D} : oIsN d .non S = some (.bl (!isNon d), S) := rfl
@[simp] theorem x_isB {a b : Bool} : oIs (.bl a) (.bl b) S = some (.bl (a == b), S) := rfl
@[simp] theorem x_isNB {a b : Bool} : oIsN (.bl a) (.bl b) S = some (.bl (!(a == b)), S) := rfl
@[simp] theorem x_isNon0 : isNon .non = true := rfl
@[simp] theorem x_isNonI {i : Int} : isNon (.int i) = false := rfl
@[simp] theorem x_isNonT {l : List D} : isNon (.tup l) = false := rfl
@[simp] theorem x_isNonL {l : List D} : isNon (.lst l) = false := rfl
@[simp] theorem x_lenT {l : List D} : oLen [.tup l] S = some (.int l.length, S) := rfl
@[simp] theorem x_lenL {l : List D} : oLen [.lst l] S = some (.int l.length, S) := rfl
@[simp] theorem x_lenS {l : List D} : oLen [.scr l] S = some (.int l.length, S) := rfl
@[simp] theorem x_tupT {l : List D} : oTuple [.tup l] S = some (.tup l, S) := rfl
@[simp] theorem x_tupL {l : List D} : oTuple [.lst l] S = some (.tup l, S) := rfl
@[simp] theorem x_itemsT {l : List D} : itemsD (.tup l) = some l := rfl
@[simp] theorem x_itemsL {l : List D} : itemsD (.lst l) = some l := rfl
@[simp] theorem x_itemsS {l : List D} : itemsD (.scr l) = some l := rfl
/-! functions -/
theorem fit_of {n : Nat} (h : n ≤ 16777216) : fit n = true := Nat.ble_eq_true_of_le h
/-- a function that made nothing new -/
theorem endF_same {d : D} : endF S.length d S = .ok d S := by unfold endF; rw [show Nat.beq S.length S.length = true from Nat.beq_refl _]; rfl
/-- a function without a store -/
theorem pure_eq {F : Fn} {ds : List D} {d : D} (hl : lowL 0 ds = true) (h : F ds [] = .ok d []) : pureF F ds S = .ok d S := by
  unfold pureF; rw [hl, h]; rfl
theorem lowL_map (f : α → D) (h : ∀ x, lowD 0 (f x) = true) : ∀ l : List α, lowL 0 (l.map f) = true
  | [] => rfl
  | x :: l => by
    rw [List.map_cons]; show (lowD 0 (f x) && lowL 0 (l.map f)) = true
    rw [h x, lowL_map f h l]; rfl
end
end Sf
end

section
set_option Elab.async false
set_option maxRecDepth 100000
set_option linter.all false
/-! Sq: trees of numbers; equality; items. -/
namespace Sf
open PySem PySem.Spec PyProof.Rows L2
/-! a tree of numbers, bools, None, tuples and lists -/
mutual
def pl : Nat → D → Bool
  | _, .non => true
  | _, .bl _ => true
  | _, .int _ => true
  | n + 1, .tup l => plL n l
  | n + 1, .lst l => plL n l
  | n + 1, .scr l => plL n l
  | _, _ => false
def plL : Nat → List D → Bool
  | _, [] => true
  | n, d :: ds => pl n d && plL n ds
end
mutual
theorem pl_ok : ∀ (n : Nat) (d : D), pl n d = true → ∃ p, D.py d = some p ∧ p.canLay0 = true ∧ p.depth ≤ n
  | n, .und, h => by cases n <;> cases h
  | n, .non, h => ⟨_, rfl, rfl, Nat.zero_le _⟩
  | n, .bl _, h => ⟨_, rfl, rfl, Nat.zero_le _⟩
  | n, .int _, h => ⟨_, rfl, rfl, Nat.zero_le _⟩
  | n, .str _, h => by cases n <;> cases h
  | 0, .tup l, h => by cases h
  | n + 1, .tup l, h => by
    obtain ⟨ps, h1, h2, h3⟩ := plL_ok n l h
    exact ⟨.tuple ps, by unfold D.py; rw [h1]; rfl, by unfold PyData.canLay0; exact h2, by unfold PyData.depth; omega⟩
  | 0, .lst l, h => by cases h
  | n + 1, .lst l, h => by
    obtain ⟨ps, h1, h2, h3⟩ := plL_ok n l h
    exact ⟨.list ps, by unfold D.py; rw [h1]; rfl, by unfold PyData.canLay0; exact h2, by unfold PyData.depth; omega⟩
  | 0, .scr l, h => by cases h
  | n + 1, .scr l, h => by
    obtain ⟨ps, h1, h2, h3⟩ := plL_ok n l h
    exact ⟨.list ps, by unfold D.py; rw [h1]; rfl, by unfold PyData.canLay0; exact h2, by unfold PyData.depth; omega⟩
  | n, .loc _, h => by cases n <;> cases h
  | n, .glob _, h => by cases n <;> cases h
theorem plL_ok : ∀ (n : Nat) (l : List D), plL n l = true → ∃ ps, D.pys l = some ps ∧ PyData.canLayAll0 ps = true ∧ PyData.depthAll ps ≤ n
  | n, [], _ => ⟨[], by simp [D.pys], rfl, Nat.zero_le _⟩
  | n, d :: l, h => by
    have h : pl n d = true ∧ plL n l = true := by
      have : (pl n d && plL n l) = true := by rw [← h]; cases n <;> simp [plL]
      simpa using this
    obtain ⟨p, h1, h2, h3⟩ := pl_ok n d h.1
    obtain ⟨ps, k1, k2, k3⟩ := plL_ok n l h.2
    exact ⟨p :: ps, by unfold D.pys; rw [h1, k1], by unfold PyData.canLayAll0; rw [h2, k2]; rfl, by unfold PyData.depthAll; omega⟩
end
theorem deref_pl {n : Nat} {d : D} {S : Sto} (h : pl n d = true) : deref S d = d := by
  cases d <;> first | rfl | (cases n <;> cases h)
theorem eqB_gen {x y : D} {S : Sto} {p q : PyData} (h1 : D.py (deref S x) = some p) (h2 : D.py (deref S y) = some q) (hp : SeqAt.shaped p = true) (hq : SeqAt.shaped q = true) : eqB x y S = some (PyData.eqv p q) := by
  unfold eqB
  split
  · cases h1; cases h2; simp [PyData.eqv, Bool.beq_eq_decide_eq]
  · cases h1; cases h2; simp [PyData.eqv]
  · cases h1; cases h2; simp [PyData.eqv]
  · cases h1; cases h2; simp [PyData.eqv]
  · cases h1; cases h2; simp [PyData.eqv]
  · cases h1; cases h2
    unfold PyData.eqv
    rename_i a b
    by_cases h : a = b
    · rw [decide_eq_true h, h]; simp
    · rw [decide_eq_false h]; simp [h]
  · rw [h1, h2]; simp only; rw [hp, hq]; rfl
theorem eqB_pl {n : Nat} {d e : D} {S : Sto} (h : pl n d = true) (h' : pl n e = true) (hn : n ≤ 64) : ∃ p q, D.py d = some p ∧ D.py e = some q ∧ p.canLay0 = true ∧ q.canLay0 = true ∧ eqB d e S = some (PyData.eqv p q) := by
  obtain ⟨p, h1, h2, h3⟩ := pl_ok n d h
  obtain ⟨q, k1, k2, k3⟩ := pl_ok n e h'
  exact ⟨p, q, h1, k1, h2, k2, eqB_gen (by rw [deref_pl h]; exact h1) (by rw [deref_pl h']; exact k1) (by unfold SeqAt.shaped; rw [h2]; simp; omega) (by unfold SeqAt.shaped; rw [k2]; simp; omega)⟩
theorem eqB_self {n : Nat} {d : D} {S : Sto} (h : pl n d = true) (hn : n ≤ 64) : eqB d d S = some true := by
  obtain ⟨p, q, h1, h2, h3, h4, e⟩ := eqB_pl (S := S) h h hn
  rw [h1] at h2; cases h2
  rw [e, SeqAt.eqv_refl p h3]
theorem oEq_self {n : Nat} {d : D} {S : Sto} (h : pl n d = true) (hn : n ≤ 64) : oEq d d S = some (.bl true, S) := by unfold oEq; rw [eqB_self h hn]
theorem oNe_self {n : Nat} {d : D} {S : Sto} (h : pl n d = true) (hn : n ≤ 64) : oNe d d S = some (.bl false, S) := by unfold oNe; rw [eqB_self h hn]; rfl
theorem plL_map {α : Type} {n : Nat} (f : α → D) (h : ∀ x, pl n (f x) = true) : ∀ l : List α, plL n (l.map f) = true
  | [] => by cases n <;> simp [plL]
  | x :: l => by
    have : plL n (f x :: l.map f) = (pl n (f x) && plL n (l.map f)) := by cases n <;> simp [plL]
    rw [List.map_cons, this, h x, plL_map f h l]; rfl
theorem pl_int {n : Nat} {i : Int} : pl n (.int i) = true := by cases n <;> simp [pl]
theorem pl_non {n : Nat} : pl n .non = true := by cases n <;> simp [pl]
theorem plL_ints {n : Nat} (l : List Int) : plL n (l.map D.int) = true := plL_map D.int (fun _ => pl_int) l
theorem pys_ints : ∀ l : List Int, D.pys (l.map D.int) = some (l.map PyData.int)
  | [] => by simp [D.pys]
  | i :: l => by
    rw [List.map_cons]; unfold D.pys; rw [pys_ints l]; rfl
theorem eqScr0 {l : List Int} {S : Sto} : oEq (.scr (l.map D.int)) (.lst []) S = some (.bl l.isEmpty, S) := by
  obtain ⟨p, q, h1, h2, h3, h4, e⟩ := eqB_pl (S := S) (n := 1) (d := .scr (l.map D.int)) (e := .lst []) (plL_ints l) rfl (by omega)
  unfold oEq
  rw [e]
  unfold D.py at h1 h2
  rw [pys_ints] at h1
  cases h1
  rw [show D.pys [] = some [] from by simp [D.pys]] at h2
  cases h2
  cases l <;> simp [PyData.eqv, PyData.eqvAll]
theorem intsD_ints : ∀ l : List Int, intsD (l.map D.int) = some l
  | [] => by simp [intsD]
  | i :: l => by rw [List.map_cons]; unfold intsD; rw [intsD_ints l]
theorem blsD_bls : ∀ l : List Bool, blsD (l.map D.bl) = some l
  | [] => by simp [blsD]
  | i :: l => by rw [List.map_cons]; unfold blsD; rw [blsD_bls l]
@[simp] theorem x_ixn20 : ixN 2 0 = some 0 := rfl
@[simp] theorem x_ixn21 : ixN 2 1 = some 1 := rfl
section
variable {S : Sto}
@[simp] theorem x_ixLoc {n : Nat} {i : Int} : oIx (.loc n) (.int i) S = match lsW (.loc n) S with
      | some l => (match ixD l i with
        | some d => some (d, S)
        | none => none)
      | none => none := rfl
@[simp] theorem x_lsWL {n : Nat} : lsW (.loc n) S = match S[n]? with
    | some (.lst l) => some l
    | _ => none := rfl
@[simp] theorem x_setO {n : Nat} {k : Int} {v : D} : setO (.loc n) (.int k) v S = match S[n]? with
    | some (.lst l) => (match ixN l.length k with
      | some j => some (S.set n (.lst (l.set j v)))
      | none => none)
    | _ => none := rfl
@[simp] theorem x_mkF {l : List D} : mkL false l S = bif fit l.length then some (.lst l, S) else none := rfl
@[simp] theorem x_mkT {l : List D} : mkL true l S = bif fit l.length then some (.loc S.length, S ++ [.lst l]) else none := rfl
@[simp] theorem x_fit0 : fit 0 = true := rfl
@[simp] theorem x_fit1 : fit 1 = true := rfl
@[simp] theorem x_fit2 : fit 2 = true := rfl
@[simp] theorem x_fit3 : fit 3 = true := rfl
@[simp] theorem x_fit4 : fit 4 = true := rfl
@[simp] theorem x_fit5 : fit 5 = true := rfl
@[simp] theorem x_fit6 : fit 6 = true := rfl
@[simp] theorem x_fit7 : fit 7 = true := rfl
@[simp] theorem x_fit8 : fit 8 = true := rfl
@[simp] theorem x_fit9 : fit 9 = true := rfl
@[simp] theorem x_fit10 : fit 10 = true := rfl
@[simp] theorem x_fit11 : fit 11 = true := rfl
@[simp] theorem x_fit12 : fit 12 = true := rfl
@[simp] theorem x_tupLoc {n : Nat} : oTuple [.loc n] S = match lsW (.loc n) S with
    | some l => some (.tup l, S)
    | none => none := rfl
def forK (g : D → En → Option En) (b : FS) (r : List D) : SR → SR
      | .nx env' S' => forL g b r env' S'
      | .ct env' S' => forL g b r env' S'
      | .bk env' S' => .nx env' S'
      | r => r
theorem forL_cons {g : D → En → Option En} {b : FS} {d : D} {r : List D} {env env1 : En} (h : g d env = some env1) : forL g b (d :: r) env S = forK g b r (b env1 S) := by
  show (match g d env with
    | none => SR.bad
    | some env1 => forK g b r (b env1 S)) = _
  rw [h]
theorem enumL_cons {k : Nat} {d : D} {l : List D} : enumL k (d :: l) = .tup [.int k, d] :: enumL (k + 1) l := rfl
theorem end_rt {d : D} {n : Nat} (h : S.length = n) : fnEnd false n (.rt d S) = .ok d S := by subst h; exact endF_same
theorem ix_nn {l : List D} {i : Int} (h : 0 ≤ i) : ixD l i = l[i.toNat]? := by unfold ixD; rw [decide_eq_true h]; rfl
theorem ix_int {l : List Int} {i : Int} (h : 0 ≤ i) (h' : i < l.length) : ∃ k, l[i.toNat]? = some k ∧ ixD (l.map D.int) i = some (.int k) := by
  refine ⟨l[i.toNat]'(by omega), List.getElem?_eq_getElem _, ?_⟩
  rw [ix_nn h, List.getElem?_map, List.getElem?_eq_getElem (show i.toNat < l.length by omega)]; rfl
theorem mul_r {m : Bool} {i j : Int} (h : Nat.blt j.natAbs 18446744073709551616 = true) : oMul m (.int i) (.int j) S = some (.int (i * j), S) := by
  rw [x_mul]; unfold mulOk; rw [h]; simp
theorem mul_l {m : Bool} {i j : Int} (h : Nat.blt i.natAbs 18446744073709551616 = true) : oMul m (.int i) (.int j) S = some (.int (i * j), S) := by
  rw [x_mul]; unfold mulOk; rw [h]; simp
theorem mod_ok {i j : Int} (h : 0 < j) : oMod (.int i) (.int j) S = some (.int (i % j), S) := by rw [x_mod, decide_eq_true h]; rfl
theorem log_small {j : Int} (h : 0 < j) (h' : j < 1000000) : Nat.blt j.natAbs.log2 9000 = true := by
  have : j.natAbs.log2 < 20 := by rw [Nat.log2_lt (by omega)]; omega
  exact Nat.ble_eq_true_of_le (by omega)
theorem fdiv_ok {i j : Int} (h : 0 < j) (h' : j < 1000000) : oFdiv (.int i) (.int j) S = some (.int (i / j), S) := by
  rw [x_fdiv, decide_eq_true h, log_small h h']; rfl
end
mutual
theorem frz_pl {S : Sto} {m : Nat} : ∀ (d : D) (n k : Nat), pl n d = true → n < k → frzD k S m d = some d
  | .und, n, k, h, _ => by cases n <;> cases h
  | .non, n, k + 1, h, _ => rfl
  | .bl _, n, k + 1, h, _ => rfl
  | .int _, n, k + 1, h, _ => rfl
  | .str _, n, k, h, _ => by cases n <;> cases h
  | .tup l, 0, k, h, _ => by cases h
  | .lst l, 0, k, h, _ => by cases h
  | .scr l, 0, k, h, _ => by cases h
  | .tup l, n + 1, k + 1, h, hk => by
    show (mapO (frzD k S m) l).map D.tup = _
    rw [frz_plL l n k h (by omega)]; rfl
  | .lst l, n + 1, k + 1, h, hk => by
    show (mapO (frzD k S m) l).map D.lst = _
    rw [frz_plL l n k h (by omega)]; rfl
  | .scr l, n + 1, k + 1, h, hk => by
    show (mapO (frzD k S m) l).map D.scr = _
    rw [frz_plL l n k h (by omega)]; rfl
  | .loc _, n, k, h, _ => by cases n <;> cases h
  | .glob _, n, k, h, _ => by cases n <;> cases h
theorem frz_plL {S : Sto} {m : Nat} : ∀ (l : List D) (n k : Nat), plL n l = true → n < k → mapO (frzD k S m) l = some l
  | [], n, k, h, _ => rfl
  | d :: l, n, k, h, hk => by
    have h : pl n d = true ∧ plL n l = true := by
      have : (pl n d && plL n l) = true := by rw [← h]; cases n <;> simp [plL]
      simpa using this
    show (match frzD k S m d, mapO (frzD k S m) l with
    | some x, some xs => some (x :: xs)
    | _, _ => none) = _
    rw [frz_pl d n k h.1 hk, frz_plL l n k h.2 hk]
end
theorem end_pl {n : Nat} {d : D} {S : Sto} (h : pl n d = true) (hn : n < 9) : fnEnd false 0 (.rt d S) = .ok d [] := by
  show endF 0 d S = _
  unfold endF
  cases S with
  | nil => rfl
  | cons a S =>
    rw [frz_pl d n 9 h hn]; rfl
theorem plL_cons {n : Nat} {d : D} {l : List D} : plL n (d :: l) = (pl n d && plL n l) := by cases n <;> simp [plL]
theorem plL_nil {n : Nat} : plL n [] = true := by cases n <;> simp [plL]
end Sf
end

section
set_option Elab.async false
set_option maxRecDepth 100000
set_option linter.all false
/-! Sx: facts of closed runs, by the kernel. -/
namespace Sf
open PySem PySem.Spec PyProof.Rows L2
mutual
def dEq : D → D → Bool
  | .non, .non => true
  | .bl a, .bl b => a == b
  | .int a, .int b => decide (a = b)
  | .str a, .str b => decide (a = b)
  | .tup a, .tup b => dEqs a b
  | .lst a, .lst b => dEqs a b
  | _, _ => false
def dEqs : List D → List D → Bool
  | [], [] => true
  | a :: as, b :: bs => dEq a b && dEqs as bs
  | _, _ => false
end
mutual
theorem dEq_ok : ∀ (a b : D), dEq a b = true → a = b
  | .non, b, h => by cases b <;> first | rfl | (simp [dEq] at h)
  | .bl a, b, h => by cases b <;> first | (simp [dEq] at h; rw [h]) | (simp [dEq] at h)
  | .int a, b, h => by cases b <;> first | (simp [dEq] at h; rw [h]) | (simp [dEq] at h)
  | .str a, b, h => by cases b <;> first | (simp [dEq] at h; rw [h]) | (simp [dEq] at h)
  | .tup a, b, h => by
    cases b with
    | tup b => simp only [dEq] at h; rw [dEqs_ok a b h]
    | _ => simp [dEq] at h
  | .lst a, b, h => by
    cases b with
    | lst b => simp only [dEq] at h; rw [dEqs_ok a b h]
    | _ => simp [dEq] at h
  | .und, b, h => by cases b <;> simp [dEq] at h
  | .scr _, b, h => by cases b <;> simp [dEq] at h
  | .loc _, b, h => by cases b <;> simp [dEq] at h
  | .glob _, b, h => by cases b <;> simp [dEq] at h
theorem dEqs_ok : ∀ (a b : List D), dEqs a b = true → a = b
  | [], [], _ => rfl
  | [], _ :: _, h => by simp [dEqs] at h
  | _ :: _, [], h => by simp [dEqs] at h
  | a :: as, b :: bs, h => by
    simp only [dEqs, Bool.and_eq_true] at h
    rw [dEq_ok a b h.1, dEqs_ok as bs h.2]
end
def chk (r : Out D) (d : D) : Bool := match r with
  | .ok e [] => dEq e d
  | _ => false
theorem chk_ok {r : Out D} {d : D} (h : chk r d = true) : r = .ok d [] := by
  unfold chk at h
  cases r with
  | ok e S =>
    cases S with
    | nil => rw [dEq_ok e d h]
    | cons => cases h
  | exc => cases h
  | bad => cases h
/-- a closed run -/
theorem pure_chk {F : Fn} {ds : List D} {d : D} {S : Sto} (h : (lowL 0 ds && chk (F ds []) d) = true) : pureF F ds S = .ok d S := by
  rw [Bool.and_eq_true] at h
  exact pure_eq h.1 (chk_ok h.2)
end Sf
end

section
set_option Elab.async false
set_option maxRecDepth 100000
set_option linter.all false
/-! Se1: own exceptions: raise, the caught one's class, try. -/
namespace L2
open PySem PySem.Spec PyProof.Rows
section
variable {X : Cx}
/-- X(): an own exception class, nothing handed in -/
theorem pmk_own0 {C : Addr} {bmB : List Value} {B newId initId : String} {x : Str} {p pos : Pos} (F : ExcBaseFacts B newId initId bmB) (q : PySem.W.excIn X.K C bmB newId = true) (gC : X.mg x = some (.ref C))
    (kC : PySem.W.keepIn X.K (.ref C) = true) (r : Raises X (.ref C)) (hg : Gl X x) (hdb : (x == ("__debug__" : Str)) = false := by decide) :
    PMk X (.Call (.Name x p) [] [] pos) (fun _ H Q => Q (.ref C) none H) := by
  intro pins s σ H Q I h
  refine wpAny_Call_Name_kw (ld_glob I hg gC ?_ hdb)
  refine PySem.W.callWith_K0 I.kIn kC ?_
  show wpAny _ _ (call (.ref C) []) _ _ _
  obtain ⟨bm, N, nm, qn, bs, hdct, sn, sub, ab, col, dd, k0, k1, k2, k3, k5, mN, hC, hN, hni, T⟩ := exc_obj I.kIn q
  refine wpAny_call_exc_subT F T hC hN hni (fun h' e hm => ?_) (by simp)
  exact mk_of I hm r h (I.hok.gone hm.new)
/-- l.count(y), flat items -/
def rCountF (K : PySem.W.Frag) : V → List V → Hp → VK → Prop := fun x xs H Q => ∃ (a : Addr) (ys : List V) (y : V), x = V.ref a ∧ xs = [y] ∧ SqL K H a ys ∧ flatV y = true ∧ ys.all flatV = true ∧ Q (.int (ys.countP (fun z => eqV z y) : Nat)) H
theorem countU {y : V} : ∀ {ys : List V} {us : List Value}, Vals ys us → ys.all flatV = true → us.countP (eqU y) = ys.countP fun z => eqV z y
  | [], [], .nil, _ => rfl
  | z :: ys, u :: us, .cons r t, h => by
    rw [List.all_cons, Bool.and_eq_true] at h
    rw [List.countP_cons, List.countP_cons, countU t h.2, eqU_of r h.1]
theorem mt_countF : MtR X "list.count" (rCountF X.K) := by
  intro pins s σ H x xs v us Q I rx rxs h
  obtain ⟨a, ys, y, rfl, rfl, hs, fy, fys, q⟩ := h
  cases rx
  cases rxs with
  | cons ry rt =>
    rename_i uy ut
    cases rt
    obtain ⟨its, rv, ⟨⟨cls, dd, data, sl⟩, n, ho, hc, hdn, hd⟩, hlen⟩ := I.list hs
    simp only at hc hd
    subst hc hd
    refine call_meets PySem.F.slot_list_count ⟨_, ho, rfl⟩ PySem.F.entry_list_count (PySem.F.args_list_count_2 _ _)
      (SeqAt.list_countAt a its.toArray n dd sl uy (eqU y)) ⟨ho, fun u' hu' => mem_eqAt ry fy rv fys u' (by simpa using hu'), ?_⟩
    have ec : its.toArray.toList.countP (eqU y) = ys.countP fun z => eqV z y := countU rv fys
    refine ⟨.int (ys.countP fun z => eqV z y : Nat), H, I.tok _, ⟨s.toks, ?_⟩, q⟩
    show Value.int ((its.toArray.toList.countP (eqU y) : Nat) : Int) s.toks = _
    rw [ec]
end
/-- isinstance(e, c), e an exception that is pinned -/
theorem call_isP {X : Cx} {a D : Addr} {oe : Obj} (C : ExcC X.K D) (hz : Zc (.ref D) none oe) (hf : ∃ vs, oe.data = .fields vs) (hp : (a, oe) ∈ X.pn) : CallR X (.builtin "isinstance") (rIsE X.K D a) := by
  intro pins s σ H xs us Q I r h
  obtain ⟨c, cv, b, rfl, hcv, e, q⟩ := h
  cases r with
  | cons rx rr =>
    cases rr with
    | cons rt rr =>
      cases rr
      cases rx
      have ec := hcv _ rt
      subst ec
      obtain ⟨hget, _⟩ := I.pin (a, oe) (List.mem_append.mpr (.inl hp))
      obtain ⟨vs, hv⟩ := hf
      have J : PySem.W.InstAt s.heap a oe D none := by
        obtain ⟨oc, od, oda, osl⟩ := oe
        obtain ⟨h1, h2⟩ := hz
        dsimp only at h1 h2 hv
        subst h1 h2 hv
        exact ⟨hget, rfl, rfl, trivial⟩
      exact PySem.W.kia_one (PySem.W.handS_kitx_exc C.hg C.hk C.hs C.hd C.ha C.hn C.ht C.hm) I.kIn J e (fun z => nomatch z) fun tk => ⟨.bl b, H, I.kept (t' := tk) fun _ _ z => z, rfl, q⟩
end L2
namespace Sf
open PySem PySem.Spec PyProof.Rows L2
/-- an own exception class over ValueError, its number c -/
structure EC (K : PySem.W.Frag) (mg : Str → Option Value) (xm : XM) (x : Str) (c : Nat) (C : Addr) : Prop where
  g : mg x = some (.ref C)
  xc : xm c = .ref C
  q : PySem.W.excIn K C [.type "ValueError", .type "Exception", .type "BaseException", .type "object"] "ValueError.__new__" = true
  kp : PySem.W.keepIn K (.ref C) = true
  b : PySem.W.subIn K (.ref C) (.type "BaseException") = some true
  t : PySem.W.typeIn K (.ref C) = some (.type "type")
def sRaise (c : Nat) : FS := fun _ S => .xc c S
theorem ss_raise {X : Cx} {w : Wx} {x : Str} {c : Nat} {C : Addr} {p pos pos' : Pos} (E : EC X.K X.mg w.xm x c C) (hc : X.calm = true) (tk : Takes X w.W) (hg : Gl X x := by rfl) (hdb : (x == ("__debug__" : Str)) = false := by decide) :
    SS X w (.Raise (some (.Call (.Name x p) [] [] pos)) none pos') (sRaise c) :=
  PS.imp (ps_raise hc tk (pmk_own0 PySem.F.excBase_ValueError E.q E.g E.kp (raises_own E.b E.t) hg hdb)) fun D σ H ⟨B, L, ρ, S, env, A, g⟩ => by
    have := g σ ρ H Post.refl A.rh
    rw [E.xc] at this
    exact this
/-- what the def that tells a caught exception promises -/
structure FnE (P : Program) (w : World) (K : PySem.W.Frag) (mg : Str → Option Value) (base : Heap) (k : Nat) (f : Addr) (fd : FuncData) (ps : List Str) (cls : Value) (d : D) : Prop where
  len : ps.length = 1
  run : ∀ (A : Around) (outer : List Env) (s : Shared) (H : Hp) (args : Args) (us : List Value) (Q : VK) (E : XK) (p : Addr × Obj), L2H.RoomH k A → Zc cls none p.2 → (∃ vs, p.2.data = .fields vs) → L2H.PinOk outer H s p → Env0 P w K mg base A outer s H → BindsTo s fd args (ps.zip us) → us = [.ref p.1] →
    (∃ B L ρ S, RH ⟨P, w, K⟩ B L ρ H S ∧ ∀ v ρ' H', Post L ρ H ρ' H' → RH ⟨P, w, K⟩ B L ρ' H' S → RV K B ρ' H' d v → Q v H') → codeAny (model P w) A (.call (.ref f) args) (CR (L2.CX P w) outer P w H s Q E) s
theorem fn_fin {P : Program} {w : World} {K : PySem.W.Frag} {N ps : List Str} {scope : Scope} {m : Bool} {b : FS} {xm : XM} {vs : List V} {H : Hp} {Q : VK} {E : XK} (Sc : FnScope N ps scope) (hs : spOf ⟨P, w, K⟩ xm ps.length (fn m N.length b) vs H Q E) (hm : m = false) :
    tS ⟨P, w, K⟩ (fun cls d _ H => E cls d H) xm b { nx := fun _ H' => Q .non H', rt := Q } (L2.start N vs) H := by
  subst hm
  obtain ⟨hl, B, L, ρ, S, ds, R, rv, g⟩ := hs
  have hNl : ps.length ≤ N.length := by have := congrArg List.length Sc.pre; rw [List.length_take] at this; omega
  refine ⟨B, L, ρ, S, ds ++ List.replicate (N.length - ds.length) .und, ⟨R, ⟨?_, fun i d e => ?_⟩⟩, ?_⟩
  · unfold L2.start
    rw [List.length_append, List.length_append, List.length_map, List.length_replicate, List.length_replicate, rv.length]
  · by_cases hi : i < ds.length
    · rw [List.getElem?_append_left hi] at e
      obtain ⟨v, e1, r1⟩ := rv.get e
      refine .inr ⟨v, ?_, r1⟩
      unfold L2.start
      rw [List.getElem?_append_left (by rw [List.length_map, ← rv.length]; exact hi), List.getElem?_map, e1]
      rfl
    · rw [List.getElem?_append_right (by omega)] at e
      exact .inl (List.eq_of_mem_replicate (List.mem_of_getElem? e))
  · revert g
    unfold fn
    have endF_ok : ∀ {d : D} {v : V} {ρ' : List Addr} {H' : Hp} {S' : Sto}, (match endF S.length d S' with
        | .ok d S' => ∀ v ρ' H', Post L ρ H ρ' H' → RH ⟨P, w, K⟩ B L ρ' H' S' → RV K B ρ' H' d v → Q v H'
        | .exc c S' => ∀ ρ' H', Post L ρ H ρ' H' → RH ⟨P, w, K⟩ B L ρ' H' S' → E (xm c) none H'
        | .bad => False) → Post L ρ H ρ' H' → RH ⟨P, w, K⟩ B L ρ' H' S' → RV K B ρ' H' d v → Q v H' := by
      intro d v ρ' H' S' g p R' r'
      unfold endF at g
      cases hb : Nat.beq S'.length S.length with
      | true => rw [hb] at g; exact g v ρ' H' p R' r'
      | false =>
        rw [hb] at g
        simp only [cond_false] at g
        obtain ⟨t, rfl⟩ := p.pre
        cases hf : frzD 9 S' S.length d with
        | none => rw [hf] at g; exact g.elim
        | some d' =>
          rw [hf] at g
          simp only at g
          cases hl : (S'.take S.length).all (lowO S.length) with
          | false => rw [hl] at g; exact g.elim
          | true =>
            rw [hl] at g
            rw [← R.len] at hf hl g
            exact g v ρ H' p.cut (R'.cut hl) (frz_ok R' 9 d d' v r' hf)
    cases b (ds ++ List.replicate (N.length - ds.length) .und) S with
    | nx env' S' => exact fun g σ' ρ' H' p R' re => endF_ok g p R' .non
    | bk env' S' => exact fun g => g.elim
    | ct env' S' => exact fun g => g.elim
    | bad => exact fun g => g.elim
    | xc c S' =>
      intro g σ' ρ' H' p R'
      unfold fnEnd endX at g
      simp only at g
      cases hb : Nat.beq S'.length S.length with
      | true => rw [hb] at g; exact g ρ' H' p R'
      | false =>
        rw [hb] at g
        simp only [cond_false] at g
        obtain ⟨t, rfl⟩ := p.pre
        cases hl : (S'.take S.length).all (lowO S.length) with
        | false => rw [hl] at g; exact g.elim
        | true =>
          rw [hl] at g
          rw [← R.len] at hl g
          exact g ρ H' p.cut (R'.cut hl)
    | rt d S' => exact fun g v ρ' H' p R' r' => endF_ok g p R' r'
/-- such a def, by its body's function -/
theorem fn_exc {P : Program} {w : World} {K : PySem.W.Frag} {mg : Str → Option Value} {base : Heap} {k : Nat} {f : Addr} {name qual : Str} {params : Arguments} {body : List Stmt} {scope : Scope} {dV kV doc pm cdv ct oc : Value} {an od : Option Addr}
    {osl : Array (Option Value)} {N ps : List Str} {xm : XM} {cls : Value} {d : D} {b : Addr → FS} (lk : K.lookup f = some ⟨oc, od, .func (PySem.W.fnOf name qual params body scope dV kV doc pm an cdv ct), osl⟩) (hcd : PySem.W.codeIn K cdv qual = true) (Sc : FnScope N ps scope) (hp1 : ps.length = 1)
    (hd : ∀ a, fn false N.length (b a) [.glob (.ref a)] [] = .ok d [])
    (hbody : ∀ (A : Around) (outer : List Env) (s : Shared) (H : Hp) (E : XK) (p : Addr × Obj), Zc cls none p.2 → (∃ vs, p.2.data = .fields vs) → L2H.RoomH k (A.deeper (envOfC qual scope s.heap.objs.size f cdv)) →
      SSs (L2H.cxH (L2.CX P w) P w K mg base N qual scope f cdv A outer s H E p) ⟨fun cls d _ H => E cls d H, xm⟩ body (b p.1)) :
    FnE P w K mg base (k + 1) f (PySem.W.fnOf name qual params body scope dV kV doc pm an cdv ct) ps cls d := by
  refine ⟨hp1, fun A outer s H args us Q E p hr hz hf hpin e0 hb hus hq => ?_⟩
  subst hus
  have KX : K.In s.heap := e0.mod.kin.keeps fun b o e => (e0.bs b o e).1
  have lim : s.heap.NoLimit := e0.mod.nolimit.keeps fun b o e => (e0.bs b o e).1
  have hkind : ∀ y ∈ ps.zip [Value.ref p.1], scope.names.lookup y.1 = some .local ∨ (scope.names.lookup y.1 = some .cell ∧ ((cellsFrom (s.heap.objs.size + 1) scope.names []).lookup y.1).isSome = true) := fun ⟨n, v⟩ hy => by
    rcases Sc.par n (List.of_mem_zip hy).1 with q | q
    · exact .inl q
    · exact .inr ⟨q, PySem.W.cellsFrom_some _ _ _ (.inl q)⟩
  refine codeAny_call_function hr.depth (KX _ _ lk) rfl Sc.co Sc.gen rfl (PySem.W.codeRec_of KX hcd) (hb _ _ _ _ ?_)
  refine wpAny_newFunctionEnv_cells Sc.kind hkind fun env he s1 x => ?_
  subst he
  refine ⟨lim.keeps x.toInCall.keep, codeAny_func ?_⟩
  have ht := hbody A outer s H E p hz hf (hr.deeper _)
  have r1 : Vals [V.ref p.1] [Value.ref p.1] := .cons rfl .nil
  have I : Inv (L2H.cxH (L2.CX P w) P w K mg base N qual scope f cdv A outer s H E p) [] (L2.start N [V.ref p.1]) H s1 := L2H.inv_startH Sc hpin e0 (by rw [hp1]; rfl) r1 x
  obtain ⟨B, L, ρ, S, R, q⟩ := hq
  have hs : spOf ⟨P, w, K⟩ xm ps.length (fn false N.length (b p.1)) [V.ref p.1] H Q E := by
    refine spOf_pure ⟨by rw [hp1]; rfl, B, L, ρ, S, [.glob (.ref p.1)], R, .cons (.glob (by simp)) .nil, ?_⟩
    unfold pureF
    rw [show lowL 0 [D.glob (.ref p.1)] = true from rfl, cond_true, hd]
    exact q
  refine wpAny_mono (ht.run [] s1 (L2.start N [V.ref p.1]) H _ I (fn_fin Sc hs rfl)) (fun fl s' hs => ?_) fun e s' hs => hs
  have fin : ∀ {σ' : L2.St} {H' : Hp} {v : V} {u : Value}, Inv (L2H.cxH (L2.CX P w) P w K mg base N qual scope f cdv A outer s H E p) [] σ' H' s' → RelV v u → Q v H' → CE outer P w H s Q u s' :=
    fun {σ' H' v u} J rv q => ⟨v, H', J.os, J.bare, J.base, J.hok, rv, q⟩
  cases fl with
  | ret u =>
    obtain ⟨v, σ', H', J, rv, q⟩ := hs
    exact fin J rv q
  | next =>
    obtain ⟨σ', H', J, q⟩ := hs
    exact fin (v := V.non) (u := Value.none) J rfl q
  | brk =>
    obtain ⟨_, _, _, q⟩ := hs
    exact False.elim q
  | cont =>
    obtain ⟨_, _, _, q⟩ := hs
    exact False.elim q
end Sf
end

section
set_option Elab.async false
set_option maxRecDepth 100000
set_option linter.all false
/-! Se2: try: .. except C as e: return which(e). -/
namespace Sf
open PySem PySem.Spec PyProof.Rows L2
/-- the caught exception's name -/
theorem pe_nameA {X : Cx} {a : Addr} {i : Nat} {n : Str} {np : Pos} (hi : X.N[i]? = some n) (hv : PE X (.Name n np) (tVar i)) : PE X (.Name n np) (fun σ H Q => ((i < σ.length → σ[i]? = some (some (V.ref a))) ∧ Q (.ref a) H)) :=
  ⟨fun pins s σ H Q I h => hv.run pins s σ H Q I ⟨_, h.1 (by rw [I.len]; exact (List.getElem?_eq_some_iff.mp hi).1), h.2⟩⟩
section
variable {X : Cx} {k : Nat} {f : Addr} {fd : FuncData} {ps : List Str} {cls : Value} {d : D} {a : Addr} {oe : Obj} {pn : List (Addr × Obj)} {x n : Str} {i : Nat} {q pos np : Pos}
/-- what the tale of the exception asks -/
def tTell (G : Pg) (d : D) : Hp → VK → Prop := fun H Q => ∃ B L ρ S, RH G B L ρ H S ∧ ∀ v ρ' H', Post L ρ H ρ' H' → RH G B L ρ' H' S → RV G.K B ρ' H' d v → Q v H'
theorem pe_tell (F : FnE X.prog X.w X.K X.mg X.base k f fd ps cls d) (hr : L2H.RoomH k X.A) (hz : Zc cls none oe) (hf : ∃ vs, oe.data = .fields vs) (hm : X.mg x = some (.ref f)) (hk : PySem.W.keepIn X.K (.ref f) = true) (hb : Binds X.K fd ps [])
    (hi : X.N[i]? = some n) (hv : PE (X.suite a ((a, oe) :: pn)) (.Name n np) (tVar i)) (hg : Gl (X.suite a ((a, oe) :: pn)) x) (hdb : (x == ("__debug__" : Str)) = false) :
    PE (X.suite a ((a, oe) :: pn)) (.Call (.Name x q) [.Name n np] [] pos) (fun σ H Q => (i < σ.length → σ[i]? = some (some (V.ref a))) ∧ tTell (pg X) d H Q) := by
  refine ⟨fun pins s σ H Q I h => ?_⟩
  have ha : PA (X.suite a ((a, oe) :: pn)) [.Name n np] (tCons (fun σ H Q => ((i < σ.length → σ[i]? = some (some (V.ref a))) ∧ Q (.ref a) H)) tNil) := pa_cons (pe_nameA (X := X.suite a ((a, oe) :: pn)) hi hv) pa_nil
  refine wpAny_Call_Name_kw (ld_glob I hg hm ?_ hdb)
  refine PySem.W.callWith_K (h₀ := X.base) I.ok.mod.kin hk (thn (ha.run pos pins s σ H (fun vs H1 => vs = [V.ref a] ∧ H1 = H) I ⟨h.1, rfl, rfl⟩) fun us s1 ⟨vs, H1, I1, r, q⟩ => ⟨I1.kIn, ?_⟩) rfl rfl
  obtain ⟨rfl, rfl⟩ := q
  cases r with
  | cons r1 r2 =>
    cases r2
    obtain rfl := r1
    have b := hb s1 [Value.ref a] I1.kIn (by rw [F.len]; rfl)
    rw [List.append_nil] at b
    have P1 := I1.pin (a, oe) (List.mem_append.mpr (.inl List.mem_cons_self))
    have hpin : L2H.PinOk (X.suite a ((a, oe) :: pn)).stack H1 s1 (a, oe) := ⟨P1.1, P1.2.1, fun hm => (List.mem_cons.mp (I1.stkSub a hm)).elim P1.2.2.1 P1.2.2.2.1, P1.2.2.2.2⟩
    show wpAny _ _ (call (.ref f) [Value.ref a]) _ _ _
    refine wpAny_call (codeAny_mono (F.run _ _ s1 H1 ⟨[Value.ref a], []⟩ [Value.ref a] Q (fun _ _ _ => False) (a, oe) (⟨hr.dp, hr.un⟩ : L2H.RoomH k (X.suite a ((a, oe) :: pn)).A) hz hf hpin I1.env0 b rfl h.2) fun r s' hq => ?_)
    cases r with
    | error e =>
      obtain ⟨_, _, _, _, _, _, _, _, _, _, _, _, z⟩ := hq
      exact z.elim
    | ok fl =>
      cases fl with
      | ret u => exact I1.after hq
      | next => exact False.elim hq
      | brk => exact False.elim hq
      | cont => exact False.elim hq
end
def sTry (cs : List Nat) (wh : Nat → D) (f : FS) : FS := fun env S => match f env S with
  | .xc c S' => bif cs.contains c then .rt (wh c) S' else .bad
  | r => r
theorem ss_try {X : Cx} {w : Wx} {body : List Stmt} {f : FS} {i k : Nat} {n x y : Str} {np pos pos' yp npp cp rp : Pos} {SE g : Addr} {fd : FuncData} {ps : List Str} {cs : List Nat} {wh : Nat → D} (hs : X.stack = X.env :: X.outer) (hf : X.env.frame = some X.env.locals) (hN : X.N.Nodup) (hi : X.N[i]? = some n)
    (hln : X.env.kindOf n = some .local) (hc : Names X x (.ref SE)) (tk : Takes X w.W)
    (hb : ∀ (W : WX) (pn : List (Addr × Obj)) (xe : Value → Shared → Prop), Takes (X.tr pn xe) W → PassesOwn (model X.prog X.w) X.A X.env xe → SSs (X.tr pn xe) ⟨W, w.xm⟩ body f)
    (hex : ∀ c, cs.contains c = true → PySem.W.exmOne X.K (w.xm c) (.ref SE) = some true) (hw : ∀ c, cs.contains c = true → FnE X.prog X.w X.K X.mg X.base k g fd ps (w.xm c) (wh c)) (hr : Room k X.A) (hm : X.mg y = some (.ref g)) (hk : PySem.W.keepIn X.K (.ref g) = true) (hbd : Binds X.K fd ps [])
    (hv : ∀ (a : Addr) (oe : Obj) (pn : List (Addr × Obj)), PE (X.suite a ((a, oe) :: pn)) (.Name n npp) (tVar i)) (hg : Gl X y) (hdb : (y == ("__debug__" : Str)) = false := by decide) :
    SS X w (.Try body [.ExceptHandler (some (.Name x np)) (some n) [.Return (some (.Call (.Name y yp) [.Name n npp] [] cp)) rp] pos'] [] [] pos) (sTry cs wh f) := by
  have hr' : L2H.RoomH k X.A := L2H.roomH_of hr
  -- the suite, whatever was caught
  refine PS.imp (ps_try_as (tb := fun W => tS (pg X) W w.xm f) (ts := fun a cls d => tRet fun σ H Q => (∃ c, cs.contains c = true ∧ cls = w.xm c ∧ d = none ∧ (i < σ.length → σ[i]? = some (some (V.ref a))) ∧ tTell (pg X) (wh c) H Q)) (Wout := w.W) hs hf hN hi hln hc tk hb ?_) fun D σ H ⟨B, L, ρ, S, env, A, gg⟩ => ?_
  · intro a oe cls d pn hz hfl
    refine pss_one (ps_ret ⟨fun pins s σ H Q I h => ?_⟩)
    obtain ⟨c, c7, rfl, rfl, h1, h2⟩ := h
    exact (pe_tell (hw c c7) hr' hz hfl hm hk hbd hi (hv a oe pn) hg hdb).run pins s σ H Q I ⟨h1, h2⟩
  · refine ⟨B, L, ρ, S, env, A, ?_⟩
    revert gg
    unfold sTry
    cases f env S with
    | nx e S' => exact fun g => g
    | bk e S' => exact fun g => g
    | ct e S' => exact fun g => g
    | rt e S' => exact fun g => g
    | bad => exact fun g => g
    | xc c S' =>
      intro gg
      simp only at gg
      cases hb7 : cs.contains c with
      | false => rw [hb7] at gg; exact gg.elim
      | true =>
        rw [hb7] at gg
        have c7 := hb7
        intro σ' ρ' H' p R
        refine ⟨true, hex c c7, fun _ a na => ?_, fun z => nomatch z⟩
        refine ⟨c, c7, rfl, rfl, fun hlt => ?_, B, L, ρ', S', R, fun v ρ2 H2 p2 R2 r2 => ?_⟩
        · rw [List.length_set] at hlt
          rw [List.getElem?_set_self hlt]
        · exact gg v ρ2 H2 (p.trans p2) R2 r2
end Sf
end

section
set_option Elab.async false
set_option maxRecDepth 100000
set_option linter.all false
/-! Se3: objects of the one class: fields, methods, making, len; defs that keep what they make. -/
namespace Sf
open PySem PySem.Spec PyProof.Rows L2
/-- what the class must say -/
structure Bd (K : PySem.W.Frag) (C : Addr) : Prop where
  n : BdIn K C
  c : Cls K C
  nF : NoAttr K C "form"
  nP : NoAttr K C "points"
def isFld (f : Str) : Bool := f == "form" || f == "points"
theorem Bd.no {K : PySem.W.Frag} {C : Addr} {f : Str} (b : Bd K C) (h : isFld f = true) : NoAttr K C f := by
  unfold isFld at h
  rw [Bool.or_eq_true] at h
  rcases h with h | h
  · rw [beq_iff_eq.mp h]; exact b.nF
  · rw [beq_iff_eq.mp h]; exact b.nP
theorem Bd.one {K : PySem.W.Frag} {C D : Addr} (b : Bd K C) (h : BdIn K D) : D = C := by
  have := h.symm.trans b.n
  injection this with this
  injection this with this
  injection this
section
variable {G : Pg} {B L ρ : List Addr} {H : Hp}
theorem RFs.look {f : Str} : ∀ {fs : List (Str × D)} {ents : List (Str × V)} {d : D}, RFs G B ρ H fs ents → fs.lookup f = some d → ∃ v, ents.lookup f = some v ∧ RV G.K B ρ H d v
  | _, _, _, .nil, e => by cases e
  | (g, x) :: fs, (_, y) :: ents, d, .cons h r, e => by
    rw [List.lookup_cons] at e ⊢
    cases q : f == g with
    | true => rw [q] at e; cases e; exact ⟨y, rfl, h⟩
    | false => rw [q] at e; exact r.look e
theorem RFs.lookN {f : Str} : ∀ {fs : List (Str × D)} {ents : List (Str × V)}, RFs G B ρ H fs ents → fs.lookup f = none → ents.lookup f = none
  | _, _, .nil, e => rfl
  | (g, x) :: fs, (_, y) :: ents, .cons h r, e => by
    rw [List.lookup_cons] at e ⊢
    cases q : f == g with
    | true => rw [q] at e; cases e
    | false => rw [q] at e; exact r.lookN e
theorem RFs.len : ∀ {fs : List (Str × D)} {ents : List (Str × V)}, RFs G B ρ H fs ents → ents.length = fs.length
  | _, _, .nil => rfl
  | _, _, .cons _ r => by rw [List.length_cons, List.length_cons, r.len]
def putD (f : Str) (v : D) : List (Str × D) → List (Str × D)
  | [] => [(f, v)]
  | (g, x) :: r => bif g == f then (g, v) :: r else (g, x) :: putD f v r
theorem RFs.put {f : Str} {d : D} {v : V} (h : RV G.K B ρ H d v) : ∀ {fs : List (Str × D)} {ents : List (Str × V)}, RFs G B ρ H fs ents → RFs G B ρ H (putD f d fs) (putF f v ents)
  | _, _, .nil => .cons h .nil
  | (g, x) :: fs, (_, y) :: ents, .cons r t => by
    unfold putD putF
    by_cases q : g = f
    · rw [if_pos q, beq_iff_eq.mpr q]; exact .cons h t
    · rw [if_neg q, beq_eq_false_iff_ne.mpr q]; exact .cons r (t.put h)
end
/-! ### a field read -/
def getF (f : Str) : Op1 := fun d S => match d with
  | .loc n => match S[n]? with
    | some (.ins fs) => (fs.lookup f).map fun v => (v, S)
    | _ => none
  | _ => none
def rFld (K : PySem.W.Frag) (f : Str) : V → Hp → VK → Prop := fun x H Q => ∃ a C dx fs v, x = .ref a ∧ H a = some (.ins C dx fs) ∧ Cls K C ∧ NoAttr K C f ∧ fs.lookup f = some v ∧ Q v H
theorem ok_getF {G : Pg} {C : Addr} {f : Str} (b : Bd G.K C) (hf : isFld f = true) : Ok1 G (rFld G.K f) (getF f) := by
  intro B L ρ S S' H d d' x Q R r e q
  unfold getF at e
  cases r with
  | @loc n a h =>
    simp only at e
    cases q1 : S[n]? with
    | none => rw [q1] at e; cases e
    | some ob =>
      rw [q1] at e
      cases ob with
      | ins fs =>
        simp only at e
        obtain ⟨C', dx, ents, hb, h1, h2⟩ := R.ob n a _ h q1
        obtain rfl := b.one hb
        cases q2 : fs.lookup f with
        | none => rw [q2] at e; cases e
        | some z =>
          rw [q2] at e; cases e
          obtain ⟨v, e2, r2⟩ := h2.look q2
          exact ⟨a, C', dx, ents, v, rfl, h1, b.c, b.no hf, e2, q v ρ H Post.refl R r2⟩
      | _ => cases e
  | _ => cases e
section
variable {X : Cx} {w : Wx} {C : Addr} {f m x : Str} {o e v : Expr} {es : List Expr} {fo fv : FE} {fs : FA} {pos pos' apos p : Pos} {k n : Nat} {g : Addr} {fd : FuncData} {ps : List Str} {F : Fn}
theorem se_fld (b : Bd X.K C) (ho : SE X w o fo) (hf : isFld f = true := by rfl) (hb : attributeBase o f X.env (eval o X.env) = eval o X.env := by rfl) : SE X w (.Attribute o f pos) (fOp1 (getF f) fo) :=
  PE.imp (pe_fld ho hb) fun σ H Q ⟨B, L, ρ, S, env, A, gg⟩ => go_op1 (r := rFld X.K f) (ok_getF (G := pg X) b hf) A gg
/-! ### a field written -/
def sPutF (f : Str) (fv fo : FE) : FS := fun env S => (fv env S).bindS fun y S1 => (fo env S1).bindS fun x S2 => match x with
  | .loc n => match S2[n]? with
    | some (.ins fs) => bif Nat.blt fs.length 1000 then .nx env (S2.set n (.ins (putD f y fs))) else .bad
    | _ => .bad
  | _ => .bad
theorem ss_fld (b : Bd X.K C) (ho : SE X w o fo) (hv : SE X w v fv) (hf : isFld f = true := by rfl) (hs : swapsWith v (some (.Attribute o f pos')) pos.line X.env = pure false := by rfl) : SS X w (.Assign [.Attribute o f pos'] v pos) (sPutF f fv fo) :=
  PS.imp (ps_fld ho hv hs) fun D σ H ⟨B, L, ρ, S, env, A, gg⟩ => by
    refine ⟨B, L, ρ, S, env, A, ?_⟩
    revert gg
    unfold sPutF
    cases fv env S with
    | exc c S' => exact fun g => g σ
    | bad => exact fun g => g
    | ok y S1 =>
      intro gg vy ρ1 H1 p1 R1 r1
      have g1 : GS (pg X) w.W w.xm B L ρ1 H1 _ D := GS.step gg p1
      refine ⟨B, L, ρ1, S1, env, A.step p1 R1, ?_⟩
      revert g1
      show GS (pg X) w.W w.xm B L ρ1 H1 ((fo env S1).bindS _) D → _
      cases fo env S1 with
      | exc c S' => exact fun g => g σ
      | bad => exact fun g => g
      | ok x S2 =>
        intro gg vx ρ2 H2 p2 R2 r2
        have g2 : GS (pg X) w.W w.xm B L ρ2 H2 _ D := GS.step gg p2
        cases r2 with
        | @loc n a h =>
          simp only [Out.bindS] at g2
          cases q1 : S2[n]? with
          | none => rw [q1] at g2; exact g2.elim
          | some ob =>
            rw [q1] at g2
            cases ob with
            | ins fs =>
              simp only at g2
              cases ql : Nat.blt fs.length 1000 with
              | false => rw [ql] at g2; exact g2.elim
              | true =>
                rw [ql] at g2
                obtain ⟨C', dx, ents, hb, h1, h2⟩ := R2.ob n a _ h q1
                obtain rfl := b.one hb
                have hl : a ∉ L := R2.notL h1 fun _ _ z => nomatch z
                have P3 : Post L ρ2 H2 ρ2 (upd H2 a (.ins C' dx (putF f vy ents))) := Post.wr h hl
                have R3 : RH (pg X) B L ρ2 (upd H2 a (.ins C' dx (putF f vy ents))) (S2.set n (.ins (putD f y fs))) := R2.wr h hl ⟨C', dx, _, hb, upd_same, ((h2.put (r1.mono p2)).mono P3)⟩
                have A2 := ((A.step p1 R1).step p2 R2)
                refine ⟨a, C', dx, ents, rfl, h1, b.c, b.no hf, by rw [h2.len]; exact Nat.le_of_ble_eq_true ql, ?_⟩
                exact GS.nx0 (GS.step g2 P3) R3 (A2.re.mono P3)
            | _ => exact g2.elim
        | _ => exact g2.elim
/-! ### a method -/
def isObj (m : Str) (d : D) (S : Sto) : Bool := match d with
  | .loc n => match S[n]? with
    | some (.ins fs) => (fs.lookup m).isNone
    | _ => false
  | _ => false
def fObjM (m : Str) (F : Fn) (fo : FE) (fs : FA) : FE := fun env S => (fo env S).bind fun o S1 => bif isObj m o S1 then (fs env S1).bind fun ds S2 => F (o :: ds) S2 else .bad
theorem isObj_ok {G : Pg} {B L ρ : List Addr} {H : Hp} {S : Sto} {d : D} {v : V} (b : Bd G.K C) (R : RH G B L ρ H S) (r : RV G.K B ρ H d v) (h : isObj m d S = true) : ∃ a dx ents, v = .ref a ∧ H a = some (.ins C dx ents) ∧ ents.lookup m = none := by
  unfold isObj at h
  cases r with
  | @loc n a hn =>
    simp only at h
    cases q1 : S[n]? with
    | none => rw [q1] at h; cases h
    | some ob =>
      rw [q1] at h
      cases ob with
      | ins fs =>
        simp only at h
        obtain ⟨C', dx, ents, hb, h1, h2⟩ := R.ob n a _ hn q1
        obtain rfl := b.one hb
        exact ⟨a, dx, ents, rfl, h1, h2.lookN (Option.isNone_iff_eq_none.mp h)⟩
      | _ => cases h
  | _ => cases h
/-- o.m(e, ..), what it raises wished for at the slots as they stand -/
def tMethS (C : Addr) (m : Str) (sp : Sp) (E : L2.St → XK) (ta : TE) (t : TA) : TE := fun σ H Q => ta σ H fun x H1 => ∃ a dx fs, x = .ref a ∧ H1 a = some (.ins C dx fs) ∧ fs.lookup m = none ∧ t σ H1 fun vs H2 => sp (x :: vs) H2 Q (E σ)
theorem pe_methS {CX : CXT} {sp : Sp} {E : L2.St → XK} {ta : TE} {t : TA} {pl : Sem Bool} (he : PE X o ta) (c : Cls X.K C) (hm : Meth X.K C m g)
    (F : FnOk X.prog X.w X.K X.mg X.base CX k g fd ps sp) (hr : Room k X.A) (hb : Binds X.K fd ps []) (hx : ∀ σ, PassesAt CX X σ (E σ)) (ha : PA X (e :: es) t)
    (hst : starEach (e :: es) X.env = (false, eval e X.env) :: starEach es X.env := by rfl) (hpl : (backTo pos (starEach es X.env)).any (·.1) = false := by rfl)
    (ht : eval (.Call (.Attribute o m apos) (e :: es) [] pos) X.env = (do
      let ov ← eval o X.env
      standAt apos.atName
      let (f, first) ← holding [ov] (getMethod ov m pl)
      callWith pos f first (backTo pos (starEach (e :: es) X.env)) (backToKw pos (keywordEach [] X.env))) := by rfl) :
    PE X (.Call (.Attribute o m apos) (e :: es) [] pos) (tMethS C m sp E ta t) := by
  refine ⟨fun pins s σ H Q I h => ?_⟩
  refine PySem.W.methodCall_KW (pl := pl) (thn (he.run pins s σ H _ I h) fun u s1 ⟨x, H1, I1, rx, a, dx, fs, ex, ea, l, q⟩ => ?_) ht
  subst ex
  obtain rfl : u = Value.ref a := rx
  refine getmeth_ok I1 ea c hm l ?_
  refine PySem.W.callWith_K (first := [.ref a]) (h₀ := X.base) I.ok.mod.kin hm.kp (thn (ha.run pos pins s1 σ H1 _ I1 q) fun us s2 ⟨vs, H2, I2, r, q2⟩ => ⟨I2.kIn, ?_⟩) hst hpl
  exact run_fnS (us := .ref a :: us) (vs := .ref a :: vs) F hr hb (hx σ) I2 (.cons rfl r) q2
theorem pe_methS0 {CX : CXT} {sp : Sp} {E : L2.St → XK} {ta : TE} {pl : Sem Bool} (he : PE X o ta) (c : Cls X.K C) (hm : Meth X.K C m g)
    (F : FnOk X.prog X.w X.K X.mg X.base CX k g fd ps sp) (hr : Room k X.A) (hb : Binds X.K fd ps []) (hx : ∀ σ, PassesAt CX X σ (E σ))
    (ht : eval (.Call (.Attribute o m apos) [] [] pos) X.env = (do
      let ov ← eval o X.env
      standAt apos.atName
      let (f, first) ← holding [ov] (getMethod ov m pl)
      callWith pos f first (backTo pos (starEach [] X.env)) (backToKw pos (keywordEach [] X.env))) := by rfl) :
    PE X (.Call (.Attribute o m apos) [] [] pos) (tMethS C m sp E ta tNil) := by
  refine ⟨fun pins s σ H Q I h => ?_⟩
  refine PySem.W.methodCall_KW (pl := pl) (thn (he.run pins s σ H _ I h) fun u s1 ⟨x, H1, I1, rx, a, dx, fs, ex, ea, l, q⟩ => ?_) ht
  subst ex
  obtain rfl : u = Value.ref a := rx
  refine getmeth_ok I1 ea c hm l ?_
  exact PySem.W.callWith_K0 (first := [.ref a]) I1.kIn hm.kp (run_fnS (us := [.ref a]) (vs := [.ref a]) F hr hb (hx σ) I1 (.cons rfl .nil) q)
/-- a method as the top has left it -/
structure Dm (K : PySem.W.Frag) (C : Addr) (x qual : Str) (st : Stmt) (ps : List Str) (a : Addr) (fd : FuncData) : Prop where
  F : Fun K x qual st a fd
  m : Meth K C x a
  b : Binds K fd ps []
theorem go_meth (b : Bd X.K C) {σ : L2.St} {H : Hp} {Q : VK} (hlen : ∀ env S ds S', fs env S = .ok ds S' → ds.length + 1 = n) (h : tE (pg X) w.W w.xm (fObjM m F fo fs) σ H Q) :
    tMethS C m (spOf (pg X) w.xm n F) (WE w.W) (tE (pg X) w.W w.xm fo) (tA (pg X) w.W w.xm fs) σ H Q := by
  obtain ⟨B, L, ρ, S, env, A, gg⟩ := h
  refine ⟨B, L, ρ, S, env, A, ?_⟩
  revert gg
  unfold fObjM
  cases fo env S with
  | exc c S' => exact fun g => g
  | bad => exact fun g => g
  | ok o S1 =>
    intro gg v ρ1 H1 p1 R1 r1
    have g1 : GO (pg X) w.W w.xm B L ρ1 H1 σ (rD (pg X) B) (bif isObj m o S1 then (fs env S1).bind fun ds S2 => F (o :: ds) S2 else .bad) Q := GO.step gg p1
    cases hi : isObj m o S1 with
    | false => rw [hi] at g1; exact g1.elim
    | true =>
      rw [hi] at g1
      obtain ⟨a, dx, ents, rfl, h1, h2⟩ := isObj_ok (G := pg X) b R1 r1 hi
      refine ⟨a, dx, ents, rfl, h1, h2, B, L, ρ1, S1, env, A.step p1 R1, ?_⟩
      revert g1
      show GO (pg X) w.W w.xm B L ρ1 H1 σ (rD (pg X) B) ((fs env S1).bind fun ds S2 => F (o :: ds) S2) Q → _
      cases hfs : fs env S1 with
      | exc c S' => exact fun g => g
      | bad => exact fun g => g
      | ok ds S2 =>
        intro g vs ρ' H' pp R r
        have g' : GO (pg X) w.W w.xm B L ρ' H' σ (rD (pg X) B) (F (o :: ds) S2) Q := GO.step g pp
        refine ⟨by rw [List.length_cons, ← RVs.length r]; exact hlen _ _ _ _ hfs, B, L, ρ', S2, o :: ds, R, .cons (r1.mono pp) r, ?_⟩
        revert g'
        cases F (o :: ds) S2 with
        | ok d S3 => exact fun g => g
        | exc c S3 => exact fun g => g
        | bad => exact fun g => g
theorem se_meth {qual : Str} {st : Stmt} (b : Bd X.K C) (D : Dm X.K C m qual st ps g fd) (FO : FnOk X.prog X.w X.K X.mg X.base (L2.CX X.prog X.w) k g fd ps (spOf (pg X) w.xm n F)) (tk : Takes X w.W) (hr : Room k X.A) (ho : SE X w o fo) (ha : SA X w (e :: es) fs)
    (hlen : ∀ env S ds S', fs env S = .ok ds S' → ds.length + 1 = n) {pl : Sem Bool} (hst : starEach (e :: es) X.env = (false, eval e X.env) :: starEach es X.env := by rfl) (hpl : (backTo pos (starEach es X.env)).any (·.1) = false := by rfl)
    (ht : eval (.Call (.Attribute o m apos) (e :: es) [] pos) X.env = (do
      let ov ← eval o X.env
      standAt apos.atName
      let (f, first) ← holding [ov] (getMethod ov m pl)
      callWith pos f first (backTo pos (starEach (e :: es) X.env)) (backToKw pos (keywordEach [] X.env))) := by rfl) :
    SE X w (.Call (.Attribute o m apos) (e :: es) [] pos) (fObjM m F fo fs) :=
  PE.imp (pe_methS ho b.c D.m FO hr D.b (passAt tk) ha hst hpl ht) fun σ H Q h => go_meth b hlen h
theorem se_meth0 {qual : Str} {st : Stmt} (b : Bd X.K C) (D : Dm X.K C m qual st ps g fd) (FO : FnOk X.prog X.w X.K X.mg X.base (L2.CX X.prog X.w) k g fd ps (spOf (pg X) w.xm 1 F)) (tk : Takes X w.W) (hr : Room k X.A) (ho : SE X w o fo) {pl : Sem Bool}
    (ht : eval (.Call (.Attribute o m apos) [] [] pos) X.env = (do
      let ov ← eval o X.env
      standAt apos.atName
      let (f, first) ← holding [ov] (getMethod ov m pl)
      callWith pos f first (backTo pos (starEach [] X.env)) (backToKw pos (keywordEach [] X.env))) := by rfl) :
    SE X w (.Call (.Attribute o m apos) [] [] pos) (fObjM m F fo fNil) :=
  PE.imp (pe_methS0 ho b.c D.m FO hr D.b (passAt tk) ht) fun σ H Q h => by
    obtain ⟨B, L, ρ, S, env, A, gg⟩ := go_meth b (fs := fNil) (fun env S ds S' e => by cases e; rfl) h
    refine ⟨B, L, ρ, S, env, A, gg.mono fun v H1 ⟨a, dx, ents, e1, e2, e3, B1, L1, ρ1, S1, env1, A1, g1⟩ => ⟨a, dx, ents, e1, e2, e3, ?_⟩⟩
    exact g1 [] ρ1 H1 Post.refl A1.rh .nil
/-! ### making -/
def fMake (F : Fn) (fs : FA) : FE := fun env S => (fs env S).bind fun ds S1 => (F (.loc S1.length :: ds) (S1 ++ [.ins []])).bind fun d S2 => match d with
  | .non => .ok (.loc S1.length) S2
  | _ => .bad
def tMakeS (C : Addr) (sp : Sp) (E : L2.St → XK) (t : TA) : TE := fun σ H Q => t σ H fun vs H1 => ∀ x dx, H1 x = none → H1 dx = none → dx ≠ x →
  sp (.ref x :: vs) (upd (upd H1 dx (.own x)) x (.ins C dx [])) (fun v H2 => v = .non ∧ Q (.ref x) H2) (E σ)
theorem run_makeS {CX : CXT} {sp : Sp} {E : XK} {pins : List (Addr × Obj)} {σ : L2.St} {H : Hp} {s : Shared} {Q : VK} {us : List Value} {vs : List V} (M : Mk X.K C g) (F : FnOk X.prog X.w X.K X.mg X.base CX k g fd ps sp) (hr : Room (k + 1) X.A) (hb : Binds X.K fd ps [])
    (hx : PassesAt CX X σ E) (I : Inv X pins σ H s) (r : Vals vs us)
    (h : ∀ x dx, H x = none → H dx = none → dx ≠ x → sp (.ref x :: vs) (upd (upd H dx (.own x)) x (.ins C dx [])) (fun v H2 => v = .non ∧ Q (.ref x) H2) E) :
    wpAny (model X.prog X.w) X.A (call (.ref C) us) (EP X pins σ Q) X.xe s := by
  have hq := h (s.heap.objs.size + 1) s.heap.objs.size (I.hok.fresh (Nat.le_succ _)) (I.hok.fresh (Nat.le_refl _)) (Nat.ne_of_lt (Nat.lt_succ_self _))
  have I2 := Inv.made (C := C) I
  have r2 : Vals (V.ref (s.heap.objs.size + 1) :: vs) (Value.ref (s.heap.objs.size + 1) :: us) := .cons rfl r
  have hl : (Value.ref (s.heap.objs.size + 1) :: us).length = ps.length := by
    have e := r2.length
    rw [F.len _ _ _ _ hq] at e
    exact e.symm
  have b := hb { s with heap := (s.heap.push PySem.W.emptyDict).push (PySem.W.instObj C s.heap.objs.size) } (Value.ref (s.heap.objs.size + 1) :: us) I2.kIn (by rw [List.append_nil]; exact hl)
  rw [List.append_nil] at b
  refine wpAny_call (make_map (f := g) I.kIn M.makes M.init (beq_iff_eq.mp M.fn) (codeAny_mono (F.run _ X.stack _ _ ⟨Value.ref (s.heap.objs.size + 1) :: us, []⟩ (Value.ref (s.heap.objs.size + 1) :: us) _ _ E (hr.make C us [])
    (I2.env0.make C us []) b r2 hq) fun r s' hq' => ?_))
  cases r with
  | error e => exact hx pins _ _ e s' I2 hq'
  | ok fl =>
    cases fl with
    | ret u =>
      obtain ⟨v, H', I3, rv, ev, q3⟩ := I2.after hq'
      subst ev
      exact ⟨rv, ⟨V.ref (s.heap.objs.size + 1), H', I3, rfl, q3⟩⟩
    | next => exact False.elim hq'
    | brk => exact False.elim hq'
    | cont => exact False.elim hq'
theorem se_make (b : Bd X.K C) (M : Mk X.K C g) (FO : FnOk X.prog X.w X.K X.mg X.base (L2.CX X.prog X.w) k g fd ps (spOf (pg X) w.xm n F)) (hbd : Binds X.K fd ps []) (tk : Takes X w.W) (hr : Room (k + 1) X.A) (hm : X.mg x = some (.ref C)) (ha : SA X w (e :: es) fs)
    (hlen : ∀ env S ds S', fs env S = .ok ds S' → ds.length + 1 = n) (hg : Gl X x := by rfl) (hdb : (x == ("__debug__" : Str)) = false := by decide) (he : starEach (e :: es) X.env = (false, eval e X.env) :: starEach es X.env := by rfl) (hpl : (backTo pos (starEach es X.env)).any (·.1) = false := by rfl) :
    SE X w (.Call (.Name x p) (e :: es) [] pos) (fMake F fs) := by
  refine ⟨fun pins s σ H Q I h => ?_⟩
  have h2 : tMakeS C (spOf (pg X) w.xm n F) (WE w.W) (tA (pg X) w.W w.xm fs) σ H Q := by
    obtain ⟨B, L, ρ, S, env, A, gg⟩ := h
    refine ⟨B, L, ρ, S, env, A, ?_⟩
    revert gg
    unfold fMake
    cases hfs : fs env S with
    | exc c S' => exact fun g => g
    | bad => exact fun g => g
    | ok ds S1 =>
      intro gg vs ρ1 H1 p1 R1 r1 y dx hy hdx hne
      have g1 : GO (pg X) w.W w.xm B L ρ1 H1 σ (rD (pg X) B) ((F (.loc S1.length :: ds) (S1 ++ [.ins []])).bind fun d S2 => match d with
        | .non => .ok (.loc S1.length) S2
        | _ => .bad) Q := GO.step gg p1
      have P2 : Post L ρ1 H1 ρ1 (upd H1 dx (.own y)) := Post.newV hdx
      have R2 : RH (pg X) B L ρ1 (upd H1 dx (.own y)) S1 := R1.newV hdx
      have hy2 : upd H1 dx (.own y) y = none := by rw [upd_ne (Ne.symm hne)]; exact hy
      have P3 : Post L ρ1 (upd H1 dx (.own y)) (ρ1 ++ [y]) (upd (upd H1 dx (.own y)) y (.ins C dx [])) := Post.newL hy2
      have R3 : RH (pg X) B L (ρ1 ++ [y]) (upd (upd H1 dx (.own y)) y (.ins C dx [])) (S1 ++ [.ins []]) := R2.newL hy2 ⟨C, dx, [], b.n, upd_same, .nil⟩
      have p3 := P2.trans P3
      have ey : (ρ1 ++ [y])[S1.length]? = some y := by rw [← R1.len, List.getElem?_append_right (Nat.le_refl _)]; simp
      refine ⟨by rw [List.length_cons, ← RVs.length r1]; exact hlen _ _ _ _ hfs, B, L, ρ1 ++ [y], S1 ++ [.ins []], .loc S1.length :: ds, R3, .cons (.loc ey) (RVs.mono p3 _ _ r1), ?_⟩
      have g2 := GO.step g1 p3
      revert g2
      cases F (.loc S1.length :: ds) (S1 ++ [.ins []]) with
      | bad => exact fun g => g
      | exc c S3 => exact fun g => g
      | ok d S3 =>
        intro g v ρ' H' pp R r
        cases r with
        | non => exact ⟨rfl, g (.ref y) ρ' H' pp R (.loc (pp.at ey))⟩
        | _ => exact g.elim
  refine wpAny_Call_Name_kw (ld_glob I hg hm ?_ hdb)
  refine PySem.W.callWith_K (h₀ := X.base) I.ok.mod.kin M.kp (thn (ha.run pos pins s σ H _ I h2) fun us s1 ⟨vs, H1, I1, r, q⟩ => ⟨I1.kIn, ?_⟩) he hpl
  exact run_makeS M FO hr hbd (passAt tk σ) I1 r q
/-! ### len -/
def fLenO (F : Fn) (fo : FE) : FE := fun env S => (fo env S).bind fun o S1 => bif isObj "__len__" o S1 then (F [o] S1).bind fun d S2 => match d with
  | .int i => bif decide (0 ≤ i) && decide (i < 16777216) then .ok (.int i) S2 else .bad
  | _ => .bad else .bad
theorem run_lenS {CX : CXT} {sp : Sp} {E : XK} {pins : List (Addr × Obj)} {σ : L2.St} {H : Hp} {s : Shared} {Q : VK} {a dx : Addr} {ents : List (Str × V)} (hm : Meth X.K C "__len__" g) (F : FnOk X.prog X.w X.K X.mg X.base CX k g fd ps sp) (hr : Room (k + 1) X.A) (hb : Binds X.K fd ps [])
    (hx : PassesAt CX X σ E) (I : Inv X pins σ H s) (ha : H a = some (.ins C dx ents)) (h : sp [V.ref a] H (fun v H2 => ∃ i : Int, v = .int i ∧ 0 ≤ i ∧ i < 16777216 ∧ Q (.int i) H2) E) :
    wpAny (model X.prog X.w) X.A (call (.builtin "len") [.ref a]) (EP X pins σ Q) X.xe s := by
  obtain ⟨mA, J, _⟩ := ins_get I.hok ha
  obtain ⟨od, J, _⟩ := J.look
  obtain ⟨m, hF⟩ := I.fr
  refine PySem.W.len_K hF I.ok.mod.kin J hm.at_ hm.fn ?_
  have hl := F.len _ _ _ _ h
  have b := hb s [Value.ref a] I.kIn (by rw [List.append_nil]; exact hl)
  rw [List.append_nil] at b
  have r2 : Vals [V.ref a] [Value.ref a] := .cons rfl .nil
  refine wpAny_call (codeAny_mono (F.run X.A.in1 X.stack s H ⟨[Value.ref a], []⟩ [Value.ref a] [V.ref a] _ E hr.in1 I.env0.in1 b r2 h) fun r s' hq => ?_)
  cases r with
  | error e => exact hx pins H s e s' I hq
  | ok fl =>
    cases fl with
    | ret u =>
      obtain ⟨v, H', I3, rv, i, rfl, i0, i1, q3⟩ := I.after hq
      obtain ⟨t, rfl⟩ := (show ∃ t, u = Value.int i t from rv)
      exact ⟨⟨i0, by omega⟩, .int i, H', I3.tok _, ⟨_, rfl⟩, q3⟩
    | next => exact False.elim hq
    | brk => exact False.elim hq
    | cont => exact False.elim hq
theorem se_lenO {qual : Str} {st : Stmt} (b : Bd X.K C) (D : Dm X.K C "__len__" qual st ps g fd) (FO : FnOk X.prog X.w X.K X.mg X.base (L2.CX X.prog X.w) k g fd ps (spOf (pg X) w.xm 1 F)) (tk : Takes X w.W) (hr : Room (k + 1) X.A) (ho : SE X w o fo)
    (hm : X.mg "len" = none) (hv : bootBuiltins "len" = some (.builtin "len")) (hg : Gl X "len" := by rfl) (he : starEach [o] X.env = (false, eval o X.env) :: starEach [] X.env := by rfl) (hpl : (backTo pos (starEach [] X.env)).any (·.1) = false := by rfl) : SE X w (.Call (.Name "len" p) [o] [] pos) (fLenO F fo) := by
  refine ⟨fun pins s σ H Q I h => ?_⟩
  have h2 : tE (pg X) w.W w.xm fo σ H fun x H1 => ∃ a dx ents, x = .ref a ∧ H1 a = some (.ins C dx ents) ∧ spOf (pg X) w.xm 1 F [V.ref a] H1 (fun v H2 => ∃ i : Int, v = .int i ∧ 0 ≤ i ∧ i < 16777216 ∧ Q (.int i) H2) (WE w.W σ) := by
    obtain ⟨B, L, ρ, S, env, A, gg⟩ := h
    refine ⟨B, L, ρ, S, env, A, ?_⟩
    revert gg
    unfold fLenO
    cases fo env S with
    | exc c S' => exact fun g => g
    | bad => exact fun g => g
    | ok d S1 =>
      intro gg v ρ1 H1 p1 R1 r1
      have g1 : GO (pg X) w.W w.xm B L ρ1 H1 σ (rD (pg X) B) (bif isObj "__len__" d S1 then (F [d] S1).bind fun d S2 => match d with
        | .int i => bif decide (0 ≤ i) && decide (i < 16777216) then .ok (.int i) S2 else .bad
        | _ => .bad else .bad) Q := GO.step gg p1
      cases hi : isObj "__len__" d S1 with
      | false => rw [hi] at g1; exact g1.elim
      | true =>
        rw [hi] at g1
        obtain ⟨a, dx, ents, rfl, h1, h2⟩ := isObj_ok (G := pg X) b R1 r1 hi
        refine ⟨a, dx, ents, rfl, h1, rfl, B, L, ρ1, S1, [d], R1, .cons r1 .nil, ?_⟩
        revert g1
        simp only [cond_true]
        cases F [d] S1 with
        | bad => exact fun g => g
        | exc c S3 => exact fun g => g
        | ok z S3 =>
          intro g v2 ρ' H' pp R r
          cases r with
          | int i =>
            have g3 : GO (pg X) w.W w.xm B L ρ1 H1 σ (rD (pg X) B) (bif decide (0 ≤ i) && decide (i < 16777216) then .ok (.int i) S3 else .bad) Q := g
            cases hd : decide (0 ≤ i) && decide (i < 16777216) with
            | false => rw [hd] at g3; exact g3.elim
            | true =>
              rw [hd] at g3
              rw [Bool.and_eq_true, decide_eq_true_eq, decide_eq_true_eq] at hd
              exact ⟨i, rfl, hd.1, hd.2, g3 _ ρ' H' pp R (.int i)⟩
          | _ => exact g.elim
  have ha : PA X [o] (tCons (tE (pg X) w.W w.xm fo) tNil) := pa_cons ho pa_nil he
  refine wpAny_Call_Name_kw (ld_blt I hg hm hv ?_ (by decide) (by decide))
  refine PyProof.Rows.callWith_builtin1 (thn (ha.run pos pins s σ H (fun xs H1 => ∃ a dx ents, xs = [V.ref a] ∧ H1 a = some (.ins C dx ents) ∧ spOf (pg X) w.xm 1 F [V.ref a] H1 (fun v H2 => ∃ i : Int, v = .int i ∧ 0 ≤ i ∧ i < 16777216 ∧ Q (.int i) H2) (WE w.W σ)) I ?_) fun us s1 ⟨vs, H1, I1, r1, a, dx, ents, e1, e2, e3⟩ => ?_) he hpl
  · refine tE_mono h2 fun x H1 ⟨a, dx, ents, e1, e2, e3⟩ => ?_
    subst e1
    exact ⟨a, dx, ents, rfl, e2, e3⟩
  · subst e1
    cases r1 with
    | cons r1 r2 =>
      cases r2
      obtain rfl := r1
      exact run_lenS D.m FO hr D.b (passAt tk σ) I1 e2 e3
end
/-! ### a def that keeps what it has made -/
def fnK (N : Nat) (b : FS) : Fn := fun ds S => match b (ds ++ List.replicate (N - ds.length) .und) S with
  | .rt d S' => .ok d S'
  | .nx _ S' => .ok .non S'
  | .xc c S' => .exc c S'
  | _ => .bad
section
variable {P : Program} {w : World} {K : PySem.W.Frag} {mg : Str → Option Value} {base : Heap}
theorem fn_okK {x qual : Str} {st : Stmt} {f : Addr} {fd : FuncData} {N ps : List Str} {k : Nat} {b : FS} (xm : XM) (F : Fun K x qual st f fd) (Sc : FnScope N ps (defScope st))
    (h : ∀ (cdv : Value) (A : Around) (outer : List PySem.Env) (s : Shared) (H : Hp) (E : XK) (W : WX), Room k (A.deeper (envOfC qual (defScope st) s.heap.objs.size f cdv)) →
      Takes (cxOf (L2.CX P w) P w K mg base N qual (defScope st) f cdv A outer s H E) W → SSs (cxOf (L2.CX P w) P w K mg base N qual (defScope st) f cdv A outer s H E) ⟨W, xm⟩ (defBody st) b) :
    FnOk P w K mg base (L2.CX P w) (k + 1) f fd ps (spOf ⟨P, w, K⟩ xm ps.length (fnK N.length b)) := by
  refine F.okX Sc (fun vs H Q E h => h.1) (fun cdv A outer s H vs Q E hr hs => ?_)
  have tk : Takes (cxOf (L2.CX P w) P w K mg base N qual (defScope st) f cdv A outer s H E) (fun cls d _ H => E cls d H) := takes_of rfl rfl rfl rfl
  refine ⟨_, h cdv A outer s H E _ hr tk, ?_⟩
  obtain ⟨hl, B, L, ρ, S, ds, R, rv, g⟩ := hs
  have hNl : ps.length ≤ N.length := by have := congrArg List.length Sc.pre; rw [List.length_take] at this; omega
  refine ⟨B, L, ρ, S, ds ++ List.replicate (N.length - ds.length) .und, ⟨R, ⟨?_, fun i d e => ?_⟩⟩, ?_⟩
  · unfold L2.start
    rw [List.length_append, List.length_append, List.length_map, List.length_replicate, List.length_replicate, rv.length]
  · by_cases hi : i < ds.length
    · rw [List.getElem?_append_left hi] at e
      obtain ⟨v, e1, r1⟩ := rv.get e
      refine .inr ⟨v, ?_, r1⟩
      unfold L2.start
      rw [List.getElem?_append_left (by rw [List.length_map, ← rv.length]; exact hi), List.getElem?_map, e1]
      rfl
    · rw [List.getElem?_append_right (by omega)] at e
      exact .inl (List.eq_of_mem_replicate (List.mem_of_getElem? e))
  · revert g
    unfold fnK
    cases b (ds ++ List.replicate (N.length - ds.length) .und) S with
    | nx env' S' => exact fun g σ' ρ' H' p R' re => g .non ρ' H' p R' .non
    | bk env' S' => exact fun g => g.elim
    | ct env' S' => exact fun g => g.elim
    | bad => exact fun g => g.elim
    | xc c S' => exact fun g σ' ρ' H' p R' => g ρ' H' p R'
    | rt d S' => exact fun g v ρ' H' p R' r' => g v ρ' H' p R' r'
end
end Sf
end

section
set_option Elab.async false
set_option maxRecDepth 100000
set_option linter.all false
/-! Se4: the def that tells which exception was caught. -/
namespace Sf
open PySem PySem.Spec PyProof.Rows L2
def bolsD : List D → Option (List Bool)
  | [] => some []
  | .bl b :: r => match bolsD r with
    | some bs => some (b :: bs)
    | none => none
  | _ => none
theorem bolsD_ok {K : PySem.W.Frag} {B ρ : List Addr} {H : Hp} : ∀ {ds : List D} {vs : List V} {bs : List Bool}, RVs K B ρ H ds vs → bolsD ds = some bs → vs = bs.map V.bl
  | _, _, _, .nil, e => by cases e; rfl
  | .bl b :: ds, _, _, .cons (.bl _) t, e => by
    unfold bolsD at e
    cases q : bolsD ds with
    | none => rw [q] at e; cases e
    | some cs => rw [q] at e; cases e; rw [bolsD_ok t q]; rfl
  | .und :: _, _, _, .cons r _, e => by cases e
  | .non :: _, _, _, .cons r _, e => by cases e
  | .int _ :: _, _, _, .cons r _, e => by cases e
  | .str _ :: _, _, _, .cons r _, e => by cases e
  | .tup _ :: _, _, _, .cons r _, e => by cases e
  | .lst _ :: _, _, _, .cons r _, e => by cases e
  | .scr _ :: _, _, _, .cons r _, e => by cases e
  | .loc _ :: _, _, _, .cons r _, e => by cases e
  | .glob _ :: _, _, _, .cons r _, e => by cases e
def mCountB : OpM := fun o xs S => match lsR o S, xs with
  | some l, [.bl k] => match bolsD l with
    | some bs => some (.int ((bs.count k : Nat) : Int), S)
    | none => none
  | _, _ => none
def mIndexB : OpM := fun o xs S => match lsR o S, xs with
  | some l, [.bl k] => match bolsD l with
    | some bs => bif bs.contains k then some (.int ((bs.idxOf k : Nat) : Int), S) else none
    | none => none
  | _, _ => none
theorem flat_bols (bs : List Bool) : (bs.map V.bl).all flatV = true := by
  rw [List.all_eq_true]
  intro x hx
  obtain ⟨b, _, rfl⟩ := List.mem_map.mp hx
  rfl
theorem countP_bols (k : Bool) (bs : List Bool) : (bs.map V.bl).countP (fun z => eqV z (.bl k)) = bs.count k := by
  rw [List.countP_map]; rfl
section
variable {X : Cx} {w : Wx} {o e : Expr} {fo : FE} {fs : FA} {apos cpos : Pos}
theorem ok_countB : OkM (pg X) (rCountF X.K) mCountB := by
  intro B L ρ S S' H o ds d' x xs Q R ro rs e q
  unfold mCountB at e
  cases e1 : lsR o S with
  | none => rw [e1] at e; cases e
  | some l =>
    rw [e1] at e
    match ds, e with
    | [.bl k], e =>
      obtain ⟨y, rfl, r⟩ := rvs1 rs
      cases r
      simp only at e
      cases e2 : bolsD l with
      | none => rw [e2] at e; cases e
      | some bs =>
        rw [e2] at e; cases e
        obtain ⟨a, vs, rfl, h1, h2⟩ := lsR_ok (G := pg X) R ro e1
        obtain rfl := bolsD_ok h2 e2
        refine ⟨a, bs.map V.bl, .bl k, rfl, rfl, h1, rfl, flat_bols bs, ?_⟩
        rw [countP_bols]
        exact here (G := pg X) q R (.int _)
theorem ok_indexB : OkM (pg X) (rIndex X.K) mIndexB := by
  intro B L ρ S S' H o ds d' x xs Q R ro rs e q
  unfold mIndexB at e
  cases e1 : lsR o S with
  | none => rw [e1] at e; cases e
  | some l =>
    rw [e1] at e
    match ds, e with
    | [.bl k], e =>
      obtain ⟨y, rfl, r⟩ := rvs1 rs
      cases r
      simp only at e
      cases e2 : bolsD l with
      | none => rw [e2] at e; cases e
      | some bs =>
        rw [e2] at e
        simp only at e
        cases hc : bs.contains k with
        | false => rw [hc] at e; cases e
        | true =>
          rw [hc] at e; cases e
          obtain ⟨a, vs, rfl, h1, h2⟩ := lsR_ok (G := pg X) R ro e1
          obtain rfl := bolsD_ok h2 e2
          have hm : k ∈ bs := List.contains_iff_mem.mp hc
          have hlt : bs.idxOf k < bs.length := List.idxOf_lt_length_of_mem hm
          refine ⟨a, bs.map V.bl, .bl k, bs.idxOf k, .bl k, rfl, rfl, h1, rfl, flat_bols bs, ?_, ?_, fun m z' hmlt hz => ?_, here (G := pg X) q R (.int _)⟩
          · rw [List.getElem?_map, List.getElem?_eq_getElem hlt, List.getElem_idxOf]; rfl
          · show (k == k) = true
            exact beq_self_eq_true k
          · rw [List.getElem?_map] at hz
            cases hb : bs[m]? with
            | none => rw [hb] at hz; cases hz
            | some b =>
              rw [hb] at hz; cases hz
              show (b == k) = false
              obtain ⟨hml, rfl⟩ := List.getElem?_eq_some_iff.mp hb
              exact List.not_of_lt_findIdx (p := (· == k)) hmlt
theorem se_countB (ho : SE X w o fo) (ha : SA X w [e] fs) (hbase : attributeBase o "count" X.env (eval o X.env) = eval o X.env := by rfl)
    (hfew : ((backTo cpos (starEach [e] X.env)).all (fun x => !x.1) && (backToKw cpos (keywordEach [] X.env)).all (fun x => x.1.isSome) && decide (([e] : List Expr).length + ([] : List Keyword).length + (if ([] : List Keyword).isEmpty then 0 else 1) < 30)) = true := by rfl)
    (hline : (apos.endLine == cpos.line) = true := by rfl) (hs : starEach [e] X.env = (false, eval e X.env) :: starEach [] X.env := by rfl) (hplain : (backTo cpos (starEach [] X.env)).any (·.1) = false := by rfl) :
    SE X w (.Call (.Attribute o "count" apos) [e] [] cpos) (fMethL mCountB fo fs) :=
  PE.imp (pe_bm PySem.F.plainAttrs_list PySem.F.slot_list_count PySem.F.type_list_count mt_countF ho ha hbase hfew hline hs hplain) fun σ H Q h => go_methL ok_countB h
theorem se_indexB (ho : SE X w o fo) (ha : SA X w [e] fs) (hbase : attributeBase o "index" X.env (eval o X.env) = eval o X.env := by rfl)
    (hfew : ((backTo cpos (starEach [e] X.env)).all (fun x => !x.1) && (backToKw cpos (keywordEach [] X.env)).all (fun x => x.1.isSome) && decide (([e] : List Expr).length + ([] : List Keyword).length + (if ([] : List Keyword).isEmpty then 0 else 1) < 30)) = true := by rfl)
    (hline : (apos.endLine == cpos.line) = true := by rfl) (hs : starEach [e] X.env = (false, eval e X.env) :: starEach [] X.env := by rfl) (hplain : (backTo cpos (starEach [] X.env)).any (·.1) = false := by rfl) :
    SE X w (.Call (.Attribute o "index" apos) [e] [] cpos) (fMethL mIndexB fo fs) :=
  PE.imp (pe_bm PySem.F.plainAttrs_list PySem.F.slot_list_index PySem.F.type_list_index mt_index ho ha hbase hfew hline hs hplain) fun σ H Q h => go_methL ok_indexB h
end
/-! ### ints alone, without room -/
def oNeI : Op2 := fun x y S => match x, y with
  | .int i, .int j => some (.bl (!decide (i = j)), S)
  | _, _ => none
theorem ok_neI {X : Cx} : Ok2 (pg X) rNe oNeI := by
  intro B L ρ S S' H d1 d2 d' x y Q R r1 r2 e q
  cases r1 with
  | int i => cases r2 with
    | int j =>
      cases e
      refine ⟨rfl, ?_⟩
      have : decide (V.int i = V.int j) = decide (i = j) := decide_eq_decide.mpr ⟨fun z => by cases z; rfl, fun z => by rw [z]⟩
      rw [this]
      exact here (G := pg X) q R (.bl _)
    | _ => cases e
  | _ => cases r2 <;> cases e
/-! ### isinstance of the caught one -/
def fIsX (a : Addr) (i : Nat) (b : Bool) : FE := fun env S => match env[i]? with
  | some (.glob (.ref a')) => bif a' == a then .ok (.bl b) S else .bad
  | _ => .bad
section
variable {X : Cx} {w : Wx} {a D : Addr} {oe : Obj} {i : Nat} {n y : Str} {b : Bool} {np p yp pos : Pos}
theorem se_isX {c : V} {cv : Value} (C : ExcC X.K D) (hz : Zc (.ref D) none oe) (hf : ∃ vs, oe.data = .fields vs) (hp : (a, oe) ∈ X.pn) (hv : PE X (.Name n np) (tVar i)) (hc : PE X (.Name y yp) (tC c)) (hcv : ∀ u, RelV c u → u = cv) (hk : PySem.W.kitOne X.K (.ref D) cv = some b)
    (hm : X.mg "isinstance" = none) (hb : bootBuiltins "isinstance" = some (.builtin "isinstance")) (hg : Gl X "isinstance" := by rfl) :
    SE X w (.Call (.Name "isinstance" p) [.Name n np, .Name y yp] [] pos) (fIsX a i b) := by
  refine PE.imp (pe_callB (call_isP C hz hf hp) hg hm hb (pa_cons hv (pa_cons hc pa_nil)) (by decide) (by decide)) fun σ H Q ⟨B, L, ρ, S, env, A, g⟩ => ?_
  unfold fIsX at g
  cases q : env[i]? with
  | none => rw [q] at g; exact g.elim
  | some d =>
    rw [q] at g
    cases d with
    | glob v =>
      cases v with
      | ref a' =>
        simp only at g
        cases ha : a' == a with
        | false => rw [ha] at g; exact g.elim
        | true =>
          rw [ha] at g
          obtain rfl := beq_iff_eq.mp ha
          rcases A.re.at' i _ q with z | ⟨v, e1, r⟩
          · cases z
          · cases r
            exact ⟨.ref a', e1, c, cv, b, rfl, hcv, hk, GO.ok0 g A (.bl _)⟩
      | _ => exact g.elim
    | _ => exact g.elim
end
/-- the own exceptions' names, by their number -/
def xnm : List Str := ["InvalidForm", "InvalidRow", "InvalidSide", "InvalidChance", "Over", "NothingToUndo", "InvalidFormat"]
def xmOf (K : PySem.W.Frag) : XM := fun c => match PySem.W.nsIn K mainGlobals (xnm.getD c "") with
  | some (some v) => v
  | _ => .none
/-- what _law_which says of the c-th -/
def whD (c : Nat) : D := .tup [.str "raised", .int c]
/-- the classes as the caught one of class c sees them -/
structure XF (K : PySem.W.Frag) (mg : Str → Option Value) (c : Nat) (C : Addr) : Prop where
  ec : ExcC K C
  is : ∀ j, j < 7 → ∃ D, mg (xnm.getD j "") = some (.ref D) ∧ PySem.W.kitOne K (.ref C) (.ref D) = some (c == j)
  ve : PySem.W.kitOne K (.ref C) (.type "ValueError") = some true
end Sf
namespace Sf
open PySem PySem.Spec PyProof.Rows L2
/-- _law_which: the c-th was caught -/
def b_which (c : Nat) (a : Addr) : FS := sSeq (sAsg 1 (fLst true (fCons (fIsX a 0 (c == 0)) (fCons (fIsX a 0 (c == 1)) (fCons (fIsX a 0 (c == 2)) (fNil))))))
  (sSeq (sExpr (fMethL mExtend (fVar 1) (fCons (fLst false (fCons (fIsX a 0 (c == 3)) (fCons (fIsX a 0 (c == 4)) (fNil)))) (fNil))))
  (sSeq (sExpr (fMethL mExtend (fVar 1) (fCons (fLst false (fCons (fIsX a 0 (c == 5)) (fNil))) (fNil))))
  (sSeq (sExpr (fMethL mAppend (fVar 1) (fCons (fIsX a 0 (c == 6)) (fNil))))
  (sSeq (sIf (Sf.tOr (tVal (fOp2 oNeI (fMethL mCountB (fVar 1) (fCons (fCon (.bl true)) (fNil))) (fCon (.int 1)))) (tNot (tVal (fIsX a 0 true)))) (sRet (fTup (fCons (fCon (.str "raised")) (fCons (fOp1 oNeg (fCon (.int 1))) (fNil))))) (sSkip))
  (sRet (fTup (fCons (fCon (.str "raised")) (fCons (fMethL mIndexB (fVar 1) (fCons (fCon (.bl true)) (fNil))) (fNil)))))))))
theorem fIsX_at {a : Addr} {b : Bool} {env : En} {S : Sto} : fIsX a 0 b (.glob (.ref a) :: env) S = .ok (.bl b) S := by
  unfold fIsX
  simp
theorem sSeq_nx {f g : FS} {env e' : En} {S S' : Sto} (h : f env S = .nx e' S') : sSeq f g env S = g e' S' := by
  unfold sSeq
  rw [h]
  rfl
theorem b_which_run (c : Nat) (hc : c < 7) (a : Addr) : fn false 2 (b_which c a) [.glob (.ref a)] [] = .ok (whD c) [] := by
  have hI : ∀ (b : Bool) (d : D) (S : Sto), fIsX a 0 b [.glob (.ref a), d] S = .ok (.bl b) S := fun b d S => fIsX_at
  have s1 : ∀ c0 c1 c2 : Bool, sAsg 1 (fLst true (fCons (fIsX a 0 c0) (fCons (fIsX a 0 c1) (fCons (fIsX a 0 c2) (fNil))))) [.glob (.ref a), .und] [] = .nx [.glob (.ref a), .loc 0] [.lst [.bl c0, .bl c1, .bl c2]] := by
    intro c0 c1 c2
    unfold sAsg fLst
    simp only [fCons, hI, Out.bind]
    rfl
  have s2 : ∀ (c3 c4 : Bool) (l : List D), fit l.length = true → fit (l.length + 2) = true → sExpr (fMethL mExtend (fVar 1) (fCons (fLst false (fCons (fIsX a 0 c3) (fCons (fIsX a 0 c4) (fNil)))) (fNil))) [.glob (.ref a), .loc 0] [.lst l] = .nx [.glob (.ref a), .loc 0] [.lst (l ++ [.bl c3, .bl c4])] := by
    intro c3 c4 l h1 h2
    have e : fCons (fLst false (fCons (fIsX a 0 c3) (fCons (fIsX a 0 c4) (fNil)))) (fNil) [.glob (.ref a), .loc 0] [.lst l] = .ok [.lst [.bl c3, .bl c4]] [.lst l] := by
      simp only [fCons, fLst, hI, Out.bind]
      rfl
    unfold sExpr fMethL
    show Out.bindS ((bif true then (fCons (fLst false (fCons (fIsX a 0 c3) (fCons (fIsX a 0 c4) (fNil)))) (fNil) [.glob (.ref a), .loc 0] [.lst l]).bind fun xs S2 => outO (mExtend (.loc 0) xs S2) else .bad)) _ = _
    rw [e]
    show Out.bindS (outO (bif fit (l.length + 2) then some (D.non, [Ob.lst (l ++ [.bl c3, .bl c4])]) else none)) _ = _
    rw [h2]
    rfl
  have s3 : ∀ (c5 : Bool) (l : List D), fit (l.length + 1) = true → sExpr (fMethL mExtend (fVar 1) (fCons (fLst false (fCons (fIsX a 0 c5) (fNil))) (fNil))) [.glob (.ref a), .loc 0] [.lst l] = .nx [.glob (.ref a), .loc 0] [.lst (l ++ [.bl c5])] := by
    intro c5 l h2
    have e : fCons (fLst false (fCons (fIsX a 0 c5) (fNil))) (fNil) [.glob (.ref a), .loc 0] [.lst l] = .ok [.lst [.bl c5]] [.lst l] := by
      simp only [fCons, fLst, hI, Out.bind]
      rfl
    unfold sExpr fMethL
    show Out.bindS ((bif true then (fCons (fLst false (fCons (fIsX a 0 c5) (fNil))) (fNil) [.glob (.ref a), .loc 0] [.lst l]).bind fun xs S2 => outO (mExtend (.loc 0) xs S2) else .bad)) _ = _
    rw [e]
    show Out.bindS (outO (bif fit (l.length + 1) then some (D.non, [Ob.lst (l ++ [.bl c5])]) else none)) _ = _
    rw [h2]
    rfl
  have s4 : ∀ (c6 : Bool) (l : List D), fitS l.length = true → sExpr (fMethL mAppend (fVar 1) (fCons (fIsX a 0 c6) (fNil))) [.glob (.ref a), .loc 0] [.lst l] = .nx [.glob (.ref a), .loc 0] [.lst (l ++ [.bl c6])] := by
    intro c6 l h2
    have e : fCons (fIsX a 0 c6) (fNil) [.glob (.ref a), .loc 0] [.lst l] = .ok [.bl c6] [.lst l] := by
      unfold fCons
      rw [hI]
      rfl
    unfold sExpr fMethL
    show Out.bindS ((bif true then (fCons (fIsX a 0 c6) (fNil) [.glob (.ref a), .loc 0] [.lst l]).bind fun xs S2 => outO (mAppend (.loc 0) xs S2) else .bad)) _ = _
    rw [e]
    show Out.bindS (outO (bif fitS l.length then some (D.non, [Ob.lst (l ++ [.bl c6])]) else none)) _ = _
    rw [h2]
    rfl
  have s5 : ∀ (l : List D), mCountB (.loc 0) [.bl true] [.lst l] = some (.int 1, [.lst l]) → sIf (Sf.tOr (tVal (fOp2 oNeI (fMethL mCountB (fVar 1) (fCons (fCon (.bl true)) (fNil))) (fCon (.int 1)))) (tNot (tVal (fIsX a 0 true)))) (sRet (fTup (fCons (fCon (.str "raised")) (fCons (fOp1 oNeg (fCon (.int 1))) (fNil))))) (sSkip) [.glob (.ref a), .loc 0] [.lst l] = .nx [.glob (.ref a), .loc 0] [.lst l] := by
    intro l h
    have e : fMethL mCountB (fVar 1) (fCons (fCon (.bl true)) (fNil)) [.glob (.ref a), .loc 0] [.lst l] = .ok (.int 1) [.lst l] := by
      unfold fMethL
      show (bif true then outO (mCountB (.loc 0) [.bl true] [.lst l]) else .bad) = _
      rw [h]
      rfl
    unfold sIf Sf.tOr tVal fOp2
    rw [e]
    simp only [Out.bind, fCon, oNeI, outO]
    unfold tNot
    simp only [decide_true, Bool.not_true, cond_false]
    rw [hI]
    rfl
  unfold fn b_which
  have e1 : ([D.glob (.ref a)] ++ List.replicate (2 - [D.glob (.ref a)].length) D.und) = [.glob (.ref a), .und] := rfl
  rw [e1, sSeq_nx (s1 _ _ _), sSeq_nx (s2 _ _ _ rfl rfl), sSeq_nx (s3 _ _ rfl), sSeq_nx (s4 _ _ rfl)]
  match c, hc with
  | 0, _ => rw [sSeq_nx (s5 _ rfl)]; rfl
  | 1, _ => rw [sSeq_nx (s5 _ rfl)]; rfl
  | 2, _ => rw [sSeq_nx (s5 _ rfl)]; rfl
  | 3, _ => rw [sSeq_nx (s5 _ rfl)]; rfl
  | 4, _ => rw [sSeq_nx (s5 _ rfl)]; rfl
  | 5, _ => rw [sSeq_nx (s5 _ rfl)]; rfl
  | 6, _ => rw [sSeq_nx (s5 _ rfl)]; rfl
/-- the def that tells, and the class that catches all -/
structure Whs (P : Program) (w : World) (K : PySem.W.Frag) (mg : Str → Option Value) (base : Heap) (xm : XM) (cs : List Nat) (k : Nat) (g : Addr) (fd : FuncData) (SE : Addr) : Prop where
  hw : ∀ c, cs.contains c = true → FnE P w K mg base k g fd ["_law_error"] (xm c) (whD c)
  m : mg "_law_which" = some (.ref g)
  kp : PySem.W.keepIn K (.ref g) = true
  b : Binds K fd ["_law_error"] []
  gS : mg "ScoreError" = some (.ref SE)
  hex : ∀ c, cs.contains c = true → PySem.W.exmOne K (xm c) (.ref SE) = some true
end Sf
end

section
set_option Elab.async false
set_option maxRecDepth 100000
set_option linter.all false
/-! Se5: the small words that the generated derivations use. -/
namespace Sf
open PySem PySem.Spec PyProof.Rows L2
theorem bt_ValueError : bootBuiltins "ValueError" = some (.type "ValueError") := by decide +kernel
theorem lenS_of {fs : FA} {n : Nat} (h : LenA fs n) : ∀ env S ds S', fs env S = .ok ds S' → ds.length + 1 = n + 1 := fun env S ds S' e => by rw [h env S ds S' e]
structure Bdx (K : PySem.W.Frag) (mg : Str → Option Value) (C : Addr) : Prop where
  b : Bd K C
  g : mg "Board" = some (.ref C)
structure Dk (K : PySem.W.Frag) (C : Addr) (qual : Str) (st : Stmt) (ps : List Str) (a : Addr) (fd : FuncData) : Prop where
  F : Fun K "__init__" qual st a fd
  md : Mk K C a
  b : Binds K fd ps []
theorem xm_of {K : PySem.W.Frag} {c : Nat} {v : Value} (h : PySem.W.nsIn K mainGlobals (xnm.getD c "") = some (some v)) : xmOf K c = v := by
  unfold xmOf
  rw [h]
theorem kit_sub {K : PySem.W.Frag} {C D : Addr} {b : Bool} (hd : PySem.W.hasDictIn K D = true) (ht : PySem.W.typeIn K (.ref D) = some (.type "type")) (hcc : PySem.W.subIn K (.ref C) (.ref C) = some true) (hs : PySem.W.subIn K (.ref C) (.ref D) = some b) :
    PySem.W.kitOne K (.ref C) (.ref D) = some b := by
  unfold PySem.W.kitOne
  by_cases h : (Value.ref C == Value.ref D) = true
  · rw [if_pos h]
    have e : C = D := Value.ref.inj (beq_iff_eq.mp h)
    subst e
    rw [hcc] at hs
    exact hs
  · rw [if_neg h]
    obtain ⟨cd, hc, _⟩ := PySem.W.any_some hd
    have e2 : ((PySem.W.clsIn K D).isSome && PySem.W.typeIn K (.ref D) == some (.type "type")) = true := by rw [hc, ht] <;> rfl
    show (if ((PySem.W.clsIn K D).isSome && PySem.W.typeIn K (.ref D) == some (.type "type")) = true then PySem.W.subIn K (.ref C) (.ref D) else none) = some b
    rw [if_pos e2]
    exact hs
theorem kit_ve {K : PySem.W.Frag} {C : Addr} (hs : PySem.W.subIn K (.ref C) (.type "ValueError") = some true) : PySem.W.kitOne K (.ref C) (.type "ValueError") = some true := by
  unfold PySem.W.kitOne
  rw [if_neg (fun h => by cases beq_iff_eq.mp h)]
  show (if PySem.W.kitMeta "ValueError" = true then PySem.W.subIn K (.ref C) (.type "ValueError") else none) = some true
  rw [if_pos (by decide +kernel)]
  exact hs
end Sf
end

section
set_option Elab.async false
set_option maxRecDepth 100000
set_option linter.all false
/-! Se6: a def picked out of a list display and called; a def that gets places only where it must; list(range(n)). -/
namespace Sf
open PySem PySem.Spec PyProof.Rows L2
section
variable {X : Cx} {w : Wx} {n : Nat}
/-- defs by their names -/
inductive FnTab (X : Cx) (w : Wx) (n : Nat) : List Expr → List Addr → List Fn → Prop
  | nil : FnTab X w n [] [] []
  | cons {x : Str} {p : Pos} {es : List Expr} {f : Addr} {as : List Addr} {F : Fn} {Fs : List Fn} {k : Nat} {fd : FuncData} {ps : List Str} (hg : Gl X x) (hdb : (x == ("__debug__" : Str)) = false) (hm : X.mg x = some (.ref f)) (kp : PySem.W.keepIn X.K (.ref f) = true) (b : Binds X.K fd ps [])
      (FO : FnOk X.prog X.w X.K X.mg X.base (L2.CX X.prog X.w) k f fd ps (spOf (pg X) w.xm n F)) (hr : Room k X.A) (t : FnTab X w n es as Fs) : FnTab X w n (.Name x p :: es) (f :: as) (F :: Fs)
def fAddrs : List Addr → FA
  | [] => fNil
  | a :: as => fCons (fCon (.glob (.ref a))) (fAddrs as)
theorem fAddrs_run {env : En} {S : Sto} : ∀ as : List Addr, fAddrs as env S = .ok (as.map fun a => .glob (.ref a)) S
  | [] => rfl
  | a :: as => by
    show ((fAddrs as env S).bind fun xs S2 => .ok (.glob (.ref a) :: xs) S2) = _
    rw [fAddrs_run as]; rfl
theorem FnTab.sa {es : List Expr} {as : List Addr} {Fs : List Fn} (T : FnTab X w n es as Fs) : SA X w es (fAddrs as) := by
  induction T with
  | nil => exact sa_nil
  | cons hg hdb hm kp b FO hr t ih => exact sa_cons (se_con (pe_glob (v := .ref _) hg hm rfl hdb) fun _ _ _ => .glob (by intro z; cases z)) ih
theorem FnTab.get {es : List Expr} {as : List Addr} {Fs : List Fn} (T : FnTab X w n es as Fs) : ∀ {i : Nat} {F : Fn}, Fs[i]? = some F → ∃ a k fd ps, as[i]? = some a ∧ PySem.W.keepIn X.K (.ref a) = true ∧ Binds X.K fd ps [] ∧ FnOk X.prog X.w X.K X.mg X.base (L2.CX X.prog X.w) k a fd ps (spOf (pg X) w.xm n F) ∧ Room k X.A := by
  induction T with
  | nil => intro i F h; simp at h
  | cons hg hdb hm kp b FO hr t ih =>
    intro i F h
    cases i with
    | zero => simp at h; subst h; exact ⟨_, _, _, _, rfl, kp, b, FO, hr⟩
    | succ i =>
      obtain ⟨a, k, fd, ps, h1, h2⟩ := ih (by simpa using h)
      exact ⟨a, k, fd, ps, by simpa using h1, h2⟩
/-- [f, g, ..][i](..) -/
def fPickC (Fs : List Fn) (fi : FE) (fs : FA) : FE := fun env S => (fi env S).bind fun ix S1 => match ix with
  | .int k => bif decide (0 ≤ k) then (match Fs[k.toNat]? with
    | some F => (fs env S1).bind fun ds S2 => F ds S2
    | none => .bad) else .bad
  | _ => .bad
theorem se_pickC {es : List Expr} {as : List Addr} {Fs : List Fn} {ie e : Expr} {es2 : List Expr} {fi : FE} {fs : FA} {p1 p2 pos : Pos} (T : FnTab X w n es as Fs) (hfit : fit as.length = true) (tk : Takes X w.W) (hi : SE X w ie fi) (ha : SA X w (e :: es2) fs)
    (hlen : ∀ env S ds S', fs env S = .ok ds S' → ds.length = n) (hpx : PlainIx ie := by intro _ _; rfl)
    (ht : eval (.Call (.Subscript (.List es p1) ie p2) (e :: es2) [] pos) X.env = (do callWith pos (← eval (.Subscript (.List es p1) ie p2) X.env) [] (backTo pos (starEach (e :: es2) X.env)) (backToKw pos (keywordEach [] X.env))) := by rfl)
    (he : starEach (e :: es2) X.env = (false, eval e X.env) :: starEach es2 X.env := by rfl) (hpl : (backTo pos (starEach es2 X.env)).any (·.1) = false := by rfl) :
    SE X w (.Call (.Subscript (.List es p1) ie p2) (e :: es2) [] pos) (fPickC Fs fi fs) := by
  have hf : SE X w (.Subscript (.List es p1) ie p2) (fOp2 oIx (fLst false (fAddrs as)) fi) := se_ix ixr ok_ix (se_lst (m := false) T.sa) hi hpx
  refine ⟨fun pins s σ H Q I h => ?_⟩
  have h2 : tE (pg X) w.W w.xm (fOp2 oIx (fLst false (fAddrs as)) fi) σ H fun y H1 => ∃ a k fd ps F, y = V.ref a ∧ PySem.W.keepIn X.K (.ref a) = true ∧ Binds X.K fd ps [] ∧ FnOk X.prog X.w X.K X.mg X.base (L2.CX X.prog X.w) k a fd ps (spOf (pg X) w.xm n F) ∧ Room k X.A ∧
      tA (pg X) w.W w.xm fs σ H1 fun vs H2 => spOf (pg X) w.xm n F vs H2 Q (WE w.W σ) := by
    obtain ⟨B, L, ρ, S, env, A, gg⟩ := h
    refine ⟨B, L, ρ, S, env, A, ?_⟩
    have e1 : fOp2 oIx (fLst false (fAddrs as)) fi env S = (fi env S).bind fun ix S1 => outO (oIx (.lst (as.map fun a => .glob (.ref a))) ix S1) := by
      show (((fAddrs as env S).bind fun xs S1 => outO (mkL false xs S1)).bind fun x S1 => (fi env S1).bind fun y S2 => outO (oIx x y S2)) = _
      rw [fAddrs_run]
      show ((outO (mkL false (as.map fun a => .glob (.ref a)) S)).bind fun x S1 => (fi env S1).bind fun y S2 => outO (oIx x y S2)) = _
      unfold mkL
      rw [List.length_map, hfit]
      rfl
    rw [e1]
    revert gg
    unfold fPickC
    cases fi env S with
    | exc c S' => exact fun g => g
    | bad => exact fun g => g
    | ok ix S1 =>
      intro gg
      cases ix with
      | int k =>
        have gg : GO (pg X) w.W w.xm B L ρ H σ (rD (pg X) B) (bif decide (0 ≤ k) then (match Fs[k.toNat]? with
          | some F => (fs env S1).bind fun ds S2 => F ds S2
          | none => .bad) else .bad) Q := gg
        cases hk : decide (0 ≤ k) with
        | false => rw [hk] at gg; exact gg.elim
        | true =>
          rw [hk] at gg
          cases hF : Fs[k.toNat]? with
          | none => rw [hF] at gg; exact gg.elim
          | some F =>
            rw [hF] at gg
            obtain ⟨a, kk, fd, ps, h1, h2, h3, h4, h5⟩ := T.get hF
            have ex : oIx (.lst (as.map fun a => .glob (.ref a))) (.int k) S1 = some (.glob (.ref a), S1) := by
              show (match ixD (as.map fun a => .glob (.ref a)) k with
                | some d => some (d, S1)
                | none => none) = _
              have : ixD (as.map fun a => D.glob (.ref a)) k = some (.glob (.ref a)) := by
                unfold ixD
                rw [hk]
                show (as.map fun a => D.glob (.ref a))[k.toNat]? = _
                rw [List.getElem?_map, h1]; rfl
              rw [this]
            show GO (pg X) w.W w.xm B L ρ H σ (rD (pg X) B) (outO (oIx (.lst (as.map fun a => .glob (.ref a))) (.int k) S1)) _
            rw [ex]
            intro v ρ1 H1 p1 R1 r1
            cases r1
            refine ⟨a, kk, fd, ps, F, rfl, h2, h3, h4, h5, B, L, ρ1, S1, env, A.step p1 R1, ?_⟩
            have g1 := GO.step gg p1
            revert g1
            show GO (pg X) w.W w.xm B L ρ1 H1 σ (rD (pg X) B) ((fs env S1).bind fun ds S2 => F ds S2) Q → _
            cases hfs : fs env S1 with
            | exc c S' => exact fun g => g
            | bad => exact fun g => g
            | ok ds S2 =>
              intro g vs ρ' H' pp R r
              have g' : GO (pg X) w.W w.xm B L ρ' H' σ (rD (pg X) B) (F ds S2) Q := GO.step g pp
              refine ⟨by rw [← RVs.length r]; exact hlen _ _ _ _ hfs, B, L, ρ', S2, ds, R, r, ?_⟩
              revert g'
              cases F ds S2 with
              | ok d S3 => exact fun g => g
              | exc c S3 => exact fun g => g
              | bad => exact fun g => g
      | _ => exact gg.elim
  refine Call_ (thn (hf.run pins s σ H _ I h2) fun u s1 ⟨y, H1, I1, ry, a, k, fd, ps, F, ey, kp, b, FO, hr, q⟩ => ?_) ht
  subst ey
  obtain rfl : u = Value.ref a := ry
  refine PySem.W.callWith_K (h₀ := X.base) I1.ok.mod.kin kp (thn (ha.run pos pins s1 σ H1 _ I1 q) fun us s2 ⟨vs, H2, I2, r, q2⟩ => ⟨I2.kIn, ?_⟩) he hpl
  exact run_fnS FO hr b (passAt tk σ) I2 r q2
/-- the store is handed on only where a place is handed in -/
def splitF (F : Fn) : Fn := fun ds S => bif lowL 0 ds then pureF F ds S else F ds S
theorem spOf_split {G : Pg} {xm : XM} {n : Nat} {F : Fn} {vs : List V} {H : Hp} {Q : VK} {E : XK} (h : spOf G xm n (splitF F) vs H Q E) : spOf G xm n F vs H Q E := by
  obtain ⟨hl, B, L, ρ, S, ds, R, r, g⟩ := h
  unfold splitF at g
  cases hlow : lowL 0 ds with
  | true => rw [hlow] at g; exact spOf_pure ⟨hl, B, L, ρ, S, ds, R, r, g⟩
  | false => rw [hlow] at g; exact ⟨hl, B, L, ρ, S, ds, R, r, g⟩
theorem fn_split {P : Program} {w : World} {K : PySem.W.Frag} {mg : Str → Option Value} {base : Heap} {G : Pg} {xm : XM} {k n : Nat} {f : Addr} {fd : FuncData} {ps : List Str} {F : Fn} (h : FnOk P w K mg base (L2.CX P w) k f fd ps (spOf G xm n F)) : FnOk P w K mg base (L2.CX P w) k f fd ps (spOf G xm n (splitF F)) :=
  h.imp fun vs H Q E => spOf_split
theorem split_low {F : Fn} {ds : List D} {S : Sto} (h : lowL 0 ds = true) : splitF F ds S = pureF F ds S := by unfold splitF; rw [h]; rfl
/-- list(range(n)) -/
def fListRng (m : Bool) (fa : FE) : FE := fun env S => (fa env S).bind fun x S1 => match x with
  | .int i => bif smallI i then outO (mkL m (rngL 0 i.toNat) S1) else .bad
  | _ => .bad
theorem rv_rng {K : PySem.W.Frag} {B ρ : List Addr} {H : Hp} : ∀ (n : Nat) (a : Nat), RVs K B ρ H (rngL (a : Int) n) ((List.range' a n).map fun i => V.int ((i : Nat) : Int))
  | 0, a => .nil
  | n + 1, a => by
    rw [List.range'_succ, List.map_cons]
    show RVs K B ρ H (.int a :: rngL ((a : Int) + 1) n) _
    exact .cons (.int _) (rv_rng n (a + 1))
theorem se_listRng {m : Bool} {a : Expr} {fa : FE} {p p2 pos pos2 : Pos} (hc : X.calm = true) (hl : X.mg "list" = none) (hr : X.mg "range" = none) (ha : SE X w a fa) (gl : Gl X "list" := by rfl) (gr : Gl X "range" := by rfl)
    (na : starEach [a] X.env = (false, eval a X.env) :: starEach [] X.env := by rfl) (nb : starEach [.Call (.Name "range" p2) [a] [] pos2] X.env = (false, eval (.Call (.Name "range" p2) [a] [] pos2) X.env) :: starEach [] X.env := by rfl) :
    SE X w (.Call (.Name "list" p) [.Call (.Name "range" p2) [a] [] pos2] [] pos) (fListRng m fa) :=
  PE.imp (pe_listRg hc gl hl (prg_1 gr hr ha na) nb) fun σ H Q ⟨B, L, ρ, S, env, A, gg⟩ => by
    refine tE_mono (tE_bind (rel := rD (pg X)) A gg) fun x H1 ⟨B, L, ρ, S, d, A, r, g⟩ => ?_
    cases r with
    | int i =>
      simp only at g
      cases hs : smallI i with
      | false => rw [hs] at g; exact g.elim
      | true =>
        rw [hs] at g
        obtain ⟨d', S', e, q⟩ := GO.outO (α := D) g
        obtain ⟨h1, h2⟩ := smallI_ok hs
        have rv : RVs X.K B ρ H1 (rngL 0 i.toNat) (rgV 0 i) := by
          have := rv_rng (K := X.K) (B := B) (ρ := ρ) (H := H1) i.toNat 0
          unfold rgV
          rw [Int.sub_zero, List.range_eq_range']
          have e0 : ((fun i : Nat => V.int (0 + ((i : Nat) : Int))) : Nat → V) = fun i => V.int ((i : Nat) : Int) := by funext j; rw [Int.zero_add]
          rw [e0]
          exact this
        obtain ⟨k1, k2⟩ := mkL_ok (G := pg X) A.rh rv e q
        have kl : i.toNat ≤ sizeLine := by
          have := k1
          rw [rgV_length, Int.sub_zero] at this
          exact this
        refine ⟨i, rfl, ⟨by omega, by omega, h1, h2, by rw [Int.sub_zero]; rw [sizeLine_eq] at kl; omega⟩, k2⟩
    | _ => exact g.elim
end
end Sf
end

section
set_option Elab.async false
set_option maxRecDepth 100000
set_option linter.all false
/-! Se7: a comprehension over a list that may be a place. -/
namespace Sf
open PySem PySem.Spec PyProof.Rows L2 RZ
def compV (g : D → En → Option En) (fe : FE) (env : En) (n : Nat) : Nat → Nat → Sto → Out (List D)
  | 0, _, _ => .bad
  | k + 1, i, S => match S[n]? with
    | some (.lst l) => match l[i]? with
      | none => .ok [] S
      | some d => match g d env with
        | none => .bad
        | some env1 => match fe env1 S with
          | .ok z S2 => (match compV g fe env n k (i + 1) S2 with
            | .ok zs S3 => .ok (z :: zs) S3
            | r => r)
          | .exc c S2 => .exc c S2
          | .bad => .bad
    | _ => .bad
def fCompD (m : Bool) (fa : FE) (g : D → En → Option En) (fe : FE) (vs : List Nat) : FE := fun env S => (fa env S).bind fun x S1 => match x with
  | .loc n => match S1[n]? with
    | some (.lst l) => match compV g fe (undE env vs) n (l.length + 1) 0 S1 with
      | .ok xs S2 => bif fit xs.length then (bif m then .ok (.loc S2.length) (S2 ++ [.lst xs]) else .ok (.lst xs) S2) else .bad
      | _ => .bad
    | _ => .bad
  | _ => .bad
section
variable {X : Cx} {w : Wx} {fa fe : FE} {g : D → En → Option En} {t : TG} {is : List Nat}
theorem compD_ok {m : Bool} {vs : List Nat} (hg : TgOk X.K t g is) (hv : ∀ i ∈ is, i ∈ vs) {σ : L2.St} {H : Hp} {Q : VK} (h : tE (pg X) w.W w.xm (fCompD m fa g fe vs) σ H Q) :
    tLc (iSeq X.K (tE (pg X) w.W w.xm fa)) t (tT (pg X) W0 w.xm tYesF) (tE (pg X) W0 w.xm fe) vs σ H Q := by
  obtain ⟨B, L, ρ, S, env, A, gg⟩ := h
  refine ⟨B, L, ρ, S, env, A, ?_⟩
  revert gg
  unfold fCompD
  cases fa env S with
  | exc c S' => exact fun g => g
  | bad => exact fun g => g
  | ok d S' =>
    intro gg v ρ1 H1 p R r
    have g1 := GO.step gg p
    have A1 := A.step p R
    cases r with
    | @loc n a h =>
      have g1 : GO (pg X) w.W w.xm B L ρ1 H1 σ (rD (pg X) B) (match S'[n]? with
        | some (.lst l) => (match compV g fe (undE env vs) n (l.length + 1) 0 S' with
          | .ok xs S2 => bif fit xs.length then (bif m then Out.ok (D.loc S2.length) (S2 ++ [Ob.lst xs]) else Out.ok (D.lst xs) S2) else Out.bad
          | _ => Out.bad)
        | _ => Out.bad) Q := g1
      cases q1 : S'[n]? with
      | none => rw [q1] at g1; exact g1.elim
      | some ob =>
        rw [q1] at g1
        cases ob with
        | lst l =>
          simp only at g1
          obtain ⟨vs0, h1, h2⟩ := R.ob n a _ h q1
          cases hc : compV g fe (undE env vs) n (l.length + 1) 0 S' with
          | exc c S2 => rw [hc] at g1; exact g1.elim
          | bad => rw [hc] at g1; exact g1.elim
          | ok xs S2 =>
            rw [hc] at g1
            simp only at g1
            cases hfit : fit xs.length with
            | false => rw [hfit] at g1; exact g1.elim
            | true =>
              rw [hfit] at g1
              have g2 : GO (pg X) w.W w.xm B L ρ1 H1 σ (rD (pg X) B) (bif m then Out.ok (.loc S2.length) (S2 ++ [.lst xs]) else .ok (.lst xs) S2) Q := g1
              refine ⟨a, rfl, .inl ⟨⟨vs0, .inl (.inl h1)⟩, fun D hD => ?_⟩⟩
              have hDB : D ∉ B := (R.fresh hD).2
              have hDL : D ∉ L := fun z => by obtain ⟨o, u, q⟩ := R.lk D z; rw [hD] at q; cases q
              refine ⟨fun i m H => ∃ ρ S acc accD ys, RH (pg X) (D :: B) L ρ H S ∧ RE X.K (D :: B) ρ H (undE env vs) (wipe σ vs) ∧ ρ[n]? = some a ∧ H D = some (.lst acc) ∧ RVs X.K (D :: B) ρ H accD acc ∧
                Post L ρ1 H1 ρ H ∧ compV g fe (undE env vs) n m i S = .ok ys S2 ∧ accD ++ ys = xs,
                ⟨l.length + 1, ρ1, S', [], [], xs, R.addB hD, (A1.re.wipe vs).addB hD, h, upd_same, .nil, Post.newV hD, hc, rfl⟩, ?_⟩
              rintro i k H ⟨ρ, S, acc, accD, ys, RH1, re1, hn, hDa, ra, ps, hcl, hxs⟩
              cases k with
              | zero => cases hcl
              | succ k =>
                unfold compV at hcl
                cases q2 : S[n]? with
                | none => rw [q2] at hcl; cases hcl
                | some ob2 =>
                  rw [q2] at hcl
                  cases ob2 with
                  | lst l2 =>
                    simp only at hcl
                    obtain ⟨vs2, h3, h4⟩ := RH1.ob n a _ hn q2
                    cases q3 : l2[i]? with
                    | none =>
                      rw [q3] at hcl
                      simp only at hcl
                      cases hcl
                      rw [List.append_nil] at hxs
                      subst hxs
                      refine .inl ⟨⟨vs2, .inl (.inl h3), by rw [← h4.length]; exact List.getElem?_eq_none_iff.mp q3⟩, ?_⟩
                      have hDρ : D ∉ ρ := fun z => RH1.dj D z List.mem_cons_self
                      cases m with
                      | false => exact g2 (.ref D) ρ H ps (RH1.reB fun a z => List.mem_cons_of_mem _ z) (.lst hDB hDρ hDa (ra.re (fun a z => z.imp (List.mem_cons_of_mem _) id) fun _ _ z => z))
                      | true =>
                        refine g2 (.ref D) (ρ ++ [D]) H ⟨ps.ext, ?_, fun a z => (List.mem_append.mp z).elim (ps.new a) fun z => ?_⟩ (RH1.addL hDB hDa ra) (.loc ?_)
                        · obtain ⟨tt, e⟩ := ps.pre; exact ⟨tt ++ [D], by rw [e, List.append_assoc]⟩
                        · simp at z; rw [z]; exact .inr hD
                        · rw [← RH1.len, List.getElem?_append_right (Nat.le_refl _)]; simp
                    | some d2 =>
                      rw [q3] at hcl
                      simp only at hcl
                      obtain ⟨v2, e2, r2⟩ := h4.get q3
                      refine .inr ⟨⟨vs2, v2, .inl (.inl h3), e2⟩, fun H => ∃ ρ S acc accD ys, RH (pg X) (D :: B) L ρ H S ∧ RE X.K (D :: B) ρ H (undE env vs) (wipe σ vs) ∧ ρ[n]? = some a ∧ H D = some (.lst acc) ∧ RVs X.K (D :: B) ρ H accD acc ∧
                        Post L ρ1 H1 ρ H ∧ compV g fe (undE env vs) n k (i + 1) S = .ok ys S2 ∧ accD ++ ys = xs, fun H' h => ⟨k, Nat.lt_succ_self k, h⟩, ?_⟩
                      rintro x H3 ⟨rfl, y⟩
                      have hy := y vs2 (.inl (.inl h3))
                      rw [e2] at hy; cases hy
                      cases hu : g d2 (undE env vs) with
                      | none => rw [hu] at hcl; cases hcl
                      | some env1 =>
                        rw [hu] at hcl
                        simp only at hcl
                        refine hg (D :: B) L ρ _ d2 v2 (undE env vs) env1 (wipe σ vs) _ r2 re1 hu fun σ3 re3 hw => ⟨(hw vs hv).trans (wipe_idem vs), ?_⟩
                        refine ⟨D :: B, L, ρ, S, env1, ⟨RH1, re3⟩, ?_⟩
                        intro b' ρ4 H4 p4 R4 hb
                        have hb : true = b' := hb
                        subst hb
                        have hDρ : D ∉ ρ := fun z => RH1.dj D z List.mem_cons_self
                        have e4 : H4 D = some (.lst acc) := p4.ext D _ (.inl hDρ) hDa
                        refine iteT ?_
                        cases he : fe env1 S with
                        | exc c S5 => rw [he] at hcl; cases hcl
                        | bad => rw [he] at hcl; cases hcl
                        | ok z S5 =>
                          rw [he] at hcl
                          simp only at hcl
                          cases hcr : compV g fe (undE env vs) n k (i + 1) S5 with
                          | exc c S6 => rw [hcr] at hcl; cases hcl
                          | bad => rw [hcr] at hcl; cases hcl
                          | ok zs S6 =>
                            rw [hcr] at hcl
                            cases hcl
                            refine ⟨D :: B, L, ρ4, S, env1, ⟨R4, re3.mono p4⟩, ?_⟩
                            rw [he]
                            intro y5 ρ5 H5 p5 R5 r5
                            have hD4 : D ∉ ρ4 := fun z => R4.dj D z List.mem_cons_self
                            have e5 : H5 D = some (.lst acc) := p5.ext D _ (.inl hD4) e4
                            have ps5 : Post L ρ1 H1 ρ5 H5 := ps.trans (p4.trans p5)
                            refine ⟨acc, e5, ?_, ρ5, S5, acc ++ [y5], accD ++ [z], zs, R5.av List.mem_cons_self hDL, ((re1.mono p4).mono p5).av List.mem_cons_self, p5.at (p4.at hn), upd_same,
                              ((RVs.mono p5 _ _ (RVs.mono p4 _ _ ra)).append (.cons r5 .nil)).av List.mem_cons_self, ⟨fun a u ha hu => ?_, ps5.pre, ps5.new⟩, hcr, by rw [← hxs]; simp⟩
                            · rw [← ra.length]
                              have := fit_le hfit
                              rw [← hxs] at this
                              simp at this
                              omega
                            · rw [upd_ne (ne_of_none hu hD)]
                              exact ps5.ext a u ha hu
                  | _ => cases hcl
        | _ => exact g1.elim
    | _ => exact g1.elim
theorem se_lcD {m : Bool} {tg iter elt : Expr} {scope : Scope} {own : List (Str × Nat)} {pos : Pos} (hc : X.calm = true) (hN : X.N.Nodup) (ok : BlkOk X.N X.env.scope scope own) (hv : ∀ i ∈ is, i ∈ own.map (·.2)) (hi : SE X w iter fa)
    (hg : ∀ (s : Shared) (H : Hp) (C : Addr) (cl : List (Str × Addr)) (fp : List Addr), PG (X.blk s H scope (compEnvC scope cl C X.env) fp) tg t) (hk : TgOk X.K t g is)
    (he : ∀ (s : Shared) (H : Hp) (C : Addr) (cl : List (Str × Addr)) (fp : List Addr), SE (X.blk s H scope (compEnvC scope cl C X.env) fp) (wB w) elt fe) (hs : ∀ x, foldedSetIterable iter X.env x = pure x := by intro _; rfl) :
    SE X w (.ListComp elt [⟨tg, iter, [], 0⟩] scope pos) (fCompD m fa g fe (own.map (·.2))) :=
  PE.imp (pe_lc (wi := iSeq X.K (tE (pg X) w.W w.xm fa)) hc hN (pi_seq hi) ok hg (fun _ _ _ _ _ => spt_nil (w := wB w)) he hs) fun σ H Q h =>
    compD_ok (X := X) (w := w) (is := is) hk hv h
end
end Sf
end

section
set_option Elab.async false
set_option maxRecDepth 100000
set_option linter.all false
/-! Ss1: texts. -/
namespace Sf
open PySem PySem.Spec PyProof.Rows L2
def strsD : List D → Option (List Str)
  | [] => some []
  | .str b :: r => match strsD r with
    | some bs => some (b :: bs)
    | none => none
  | _ => none
theorem strsD_ok {K : PySem.W.Frag} {B ρ : List Addr} {H : Hp} : ∀ {ds : List D} {vs : List V} {bs : List Str}, RVs K B ρ H ds vs → strsD ds = some bs → vs = bs.map V.str
  | _, _, _, .nil, e => by cases e; rfl
  | .str b :: ds, _, _, .cons (.str _) t, e => by
    unfold strsD at e
    cases q : strsD ds with
    | none => rw [q] at e; cases e
    | some cs => rw [q] at e; cases e; rw [strsD_ok t q]; rfl
  | .und :: _, _, _, .cons r _, e => by cases e
  | .non :: _, _, _, .cons r _, e => by cases e
  | .int _ :: _, _, _, .cons r _, e => by cases e
  | .bl _ :: _, _, _, .cons r _, e => by cases e
  | .tup _ :: _, _, _, .cons r _, e => by cases e
  | .lst _ :: _, _, _, .cons r _, e => by cases e
  | .scr _ :: _, _, _, .cons r _, e => by cases e
  | .loc _ :: _, _, _, .cons r _, e => by cases e
  | .glob _ :: _, _, _, .cons r _, e => by cases e
theorem rv_strs {K : PySem.W.Frag} {B ρ : List Addr} {H : Hp} : ∀ ys : List Str, RVs K B ρ H (ys.map D.str) (ys.map V.str)
  | [] => .nil
  | y :: ys => .cons (.str y) (rv_strs ys)
def mPart : OpM := fun o xs S => match o, xs with
  | .str a, [.str b] => bif !(b.length == 0) && fit a.length then some (.tup [.str (Txt.partition a b).1, .str (Txt.partition a b).2.1, .str (Txt.partition a b).2.2], S) else none
  | _, _ => none
def mSplit : OpM := fun o xs S => match o, xs with
  | .str a, [.str b] => bif !(b.length == 0) && fit (a.length + 2) then mkL false ((Txt.split a b).map D.str) S else none
  | _, _ => none
def mJoin : OpM := fun o xs S => match o, xs with
  | .str a, [x] => match lsR x S with
    | some l => (match strsD l with
      | some ys => bif fit ((ys.map (·.length)).sum + ys.length * a.length) then some (.str (Txt.join a ys), S) else none
      | none => none)
    | none => none
  | _, _ => none
def isStr : D → Bool
  | .str _ => true
  | _ => false
def fMethS (g : OpM) (fo : FE) (fs : FA) : FE := fun env S => (fo env S).bind fun o S1 => bif isStr o then (fs env S1).bind fun xs S2 => outO (g o xs S2) else .bad
section
variable {X : Cx} {w : Wx} {o e : Expr} {es : List Expr} {fo : FE} {fs : FA} {name : Str} {apos cpos : Pos}
theorem go_methS {g : OpM} {r : V → List V → Hp → VK → Prop} (h : OkM (pg X) r g) {σ : L2.St} {H : Hp} {Q : VK} (ht : tE (pg X) w.W w.xm (fMethS g fo fs) σ H Q) :
    tE (pg X) w.W w.xm fo σ H fun x H1 => tyV X.K "str" x H1 ∧ tA (pg X) w.W w.xm fs σ H1 fun xs H2 => r x xs H2 Q := by
  obtain ⟨B, L, ρ, S, env, A, gg⟩ := ht
  refine ⟨B, L, ρ, S, env, A, ?_⟩
  revert gg
  unfold fMethS
  cases fo env S with
  | exc c S' => exact fun g => g
  | bad => exact fun g => g
  | ok d S' =>
    intro g1 v ρ' H' p R r1
    have g2 : GO (pg X) w.W w.xm B L ρ' H' σ (rD (pg X) B) (bif isStr d then (fs env S').bind fun xs S2 => outO (g d xs S2) else .bad) Q := GO.step g1 p
    cases hl : isStr d with
    | false => rw [hl] at g2; exact g2.elim
    | true =>
      rw [hl] at g2
      refine ⟨(by cases r1 <;> first | rfl | (cases hl)), B, L, ρ', S', env, A.step p R, ?_⟩
      revert g2
      show GO (pg X) w.W w.xm B L ρ' H' σ (rD (pg X) B) ((fs env S').bind fun xs S2 => outO (g d xs S2)) Q → _
      cases fs env S' with
      | exc c S' => exact fun g => g
      | bad => exact fun g => g
      | ok ds S2 =>
        intro g2 vs ρ2 H2 p2 R2 r2
        have g3 : GO (pg X) w.W w.xm B L ρ2 H2 σ (rD (pg X) B) (outO (g d ds S2)) Q := GO.step g2 p2
        obtain ⟨d', S3, e, q⟩ := g3.outO
        exact h B L ρ2 S2 S3 H2 d ds d' v vs Q R2 (r1.mono p2) r2 e q
theorem ok_part : OkM (pg X) (fun x xs H Q => ∃ a b, x = .str a ∧ xs = [.str b] ∧ (b.length == 0) = false ∧ a.length ≤ sizeLine ∧ ∀ p, H p = none → Q (.ref p) (upd H p (.tup [.str (Txt.partition a b).1, .str (Txt.partition a b).2.1, .str (Txt.partition a b).2.2]))) mPart := by
  intro B L ρ S S' H o ds d' x xs Q R ro rs e q
  match o, ds, e with
  | .str a, [.str b], e =>
    obtain ⟨y, rfl, r⟩ := rvs1 rs
    cases ro; cases r
    unfold mPart at e
    simp only at e
    cases hb : (!(b.length == 0) && fit a.length) with
    | false => rw [hb] at e; cases e
    | true =>
      rw [hb] at e; cases e
      rw [Bool.and_eq_true, Bool.not_eq_true'] at hb
      exact ⟨a, b, rfl, rfl, hb.1, fit_le hb.2, mkT_ok (G := pg X) R (.cons (.str _) (.cons (.str _) (.cons (.str _) .nil))) q⟩
theorem ok_split : OkM (pg X) (fun x xs H Q => ∃ a b, x = .str a ∧ xs = [.str b] ∧ (b.length == 0) = false ∧ a.length + 2 ≤ sizeLine ∧ rNewStrs (Txt.split a b) H Q) mSplit := by
  intro B L ρ S S' H o ds d' x xs Q R ro rs e q
  match o, ds, e with
  | .str a, [.str b], e =>
    obtain ⟨y, rfl, r⟩ := rvs1 rs
    cases ro; cases r
    unfold mSplit at e
    simp only at e
    cases hb : (!(b.length == 0) && fit (a.length + 2)) with
    | false => rw [hb] at e; cases e
    | true =>
      rw [hb] at e
      rw [Bool.and_eq_true, Bool.not_eq_true'] at hb
      exact ⟨a, b, rfl, rfl, hb.1, fit_le hb.2, (mkL_ok (G := pg X) R (rv_strs _) e q).2⟩
theorem ok_join : OkM (pg X) (fun x xs H Q => ∃ a p, ∃ ys : List Str, x = .str a ∧ xs = [.ref p] ∧ (SqL X.K H p (ys.map V.str) ∨ SqT X.K H p (ys.map V.str)) ∧ (ys.map (·.length)).sum + ys.length * a.length ≤ 16777216 ∧ Q (.str (Txt.join a ys)) H) mJoin := by
  intro B L ρ S S' H o ds d' x xs Q R ro rs e q
  match o, ds, e with
  | .str a, [z], e =>
    obtain ⟨y, rfl, r⟩ := rvs1 rs
    cases ro
    unfold mJoin at e
    simp only at e
    cases e1 : lsR z S with
    | none => rw [e1] at e; cases e
    | some l =>
      rw [e1] at e
      simp only at e
      cases e2 : strsD l with
      | none => rw [e2] at e; cases e
      | some ys =>
        rw [e2] at e
        simp only at e
        cases hf : fit ((ys.map (·.length)).sum + ys.length * a.length) with
        | false => rw [hf] at e; cases e
        | true =>
          rw [hf] at e; cases e
          obtain ⟨p, vs, rfl, h1, h2⟩ := lsR_ok (G := pg X) R r e1
          obtain rfl := strsD_ok h2 e2
          exact ⟨a, p, ys, rfl, rfl, .inl h1, Nat.le_of_ble_eq_true hf, here (G := pg X) q R (.str _)⟩
theorem se_partition (ho : SE X w o fo) (ha : SA X w [e] fs) (hbase : attributeBase o "partition" X.env (eval o X.env) = eval o X.env := by rfl)
    (hfew : ((backTo cpos (starEach [e] X.env)).all (fun x => !x.1) && (backToKw cpos (keywordEach [] X.env)).all (fun x => x.1.isSome) && decide (([e] : List Expr).length + ([] : List Keyword).length + (if ([] : List Keyword).isEmpty then 0 else 1) < 30)) = true := by rfl)
    (hline : (apos.endLine == cpos.line) = true := by rfl) (hs : starEach [e] X.env = (false, eval e X.env) :: starEach [] X.env := by rfl) (hplain : (backTo cpos (starEach [] X.env)).any (·.1) = false := by rfl) :
    SE X w (.Call (.Attribute o "partition" apos) [e] [] cpos) (fMethS mPart fo fs) :=
  PE.imp (pe_bm PySem.F.plainAttrs_str PySem.F.slot_str_partition PySem.F.type_str_partition mt_partition ho ha hbase hfew hline hs hplain) fun σ H Q h => go_methS ok_part h
theorem se_split (ho : SE X w o fo) (ha : SA X w [e] fs) (hbase : attributeBase o "split" X.env (eval o X.env) = eval o X.env := by rfl)
    (hfew : ((backTo cpos (starEach [e] X.env)).all (fun x => !x.1) && (backToKw cpos (keywordEach [] X.env)).all (fun x => x.1.isSome) && decide (([e] : List Expr).length + ([] : List Keyword).length + (if ([] : List Keyword).isEmpty then 0 else 1) < 30)) = true := by rfl)
    (hline : (apos.endLine == cpos.line) = true := by rfl) (hs : starEach [e] X.env = (false, eval e X.env) :: starEach [] X.env := by rfl) (hplain : (backTo cpos (starEach [] X.env)).any (·.1) = false := by rfl) :
    SE X w (.Call (.Attribute o "split" apos) [e] [] cpos) (fMethS mSplit fo fs) :=
  PE.imp (pe_bm PySem.F.plainAttrs_str PySem.F.slot_str_split PySem.F.type_str_split mt_split ho ha hbase hfew hline hs hplain) fun σ H Q h => go_methS ok_split h
theorem se_join (ho : SE X w o fo) (ha : SA X w [e] fs) (hbase : attributeBase o "join" X.env (eval o X.env) = eval o X.env := by rfl)
    (hfew : ((backTo cpos (starEach [e] X.env)).all (fun x => !x.1) && (backToKw cpos (keywordEach [] X.env)).all (fun x => x.1.isSome) && decide (([e] : List Expr).length + ([] : List Keyword).length + (if ([] : List Keyword).isEmpty then 0 else 1) < 30)) = true := by rfl)
    (hline : (apos.endLine == cpos.line) = true := by rfl) (hs : starEach [e] X.env = (false, eval e X.env) :: starEach [] X.env := by rfl) (hplain : (backTo cpos (starEach [] X.env)).any (·.1) = false := by rfl) :
    SE X w (.Call (.Attribute o "join" apos) [e] [] cpos) (fMethS mJoin fo fs) :=
  PE.imp (pe_bm PySem.F.plainAttrs_str PySem.F.slot_str_join PySem.F.type_str_join mt_join ho ha hbase hfew hline hs hplain) fun σ H Q h => go_methS ok_join h
/-! in, slices -/
def oInS : Op2 := fun x y S => match x, y with
  | .str i, .str j => some (.bl (!(Builtin.Str.occurrences j i 0 j.length 1).isEmpty), S)
  | _, _ => none
theorem ok_inS : Ok2 (pg X) (fun x y H Q => ∃ i j, x = .str i ∧ y = .str j ∧ Q (.bl (!(Builtin.Str.occurrences j i 0 j.length 1).isEmpty)) H) oInS := by
  intro B L ρ S S' H d1 d2 d' x y Q R r1 r2 e q
  cases r1 with
  | str i => cases r2 with
    | str j => cases e; exact ⟨i, j, rfl, rfl, here (G := pg X) q R (.bl _)⟩
    | _ => cases e
  | _ => cases r2 <;> cases e
def oCutS (x : D) (lo hi : Option Int) (S : Sto) : Option (D × Sto) := match x with
  | .str z => bif fit z.length then some (.str (cutS z lo hi), S) else none
  | _ => none
def fCutS (a : FE) (lo hi : FO) : FE := fun env S => (a env S).bind fun x S1 => (lo env S1).bind fun l S2 => (hi env S2).bind fun u S3 => outO (oCutS x l u S3)
theorem se_cutS {lo hi : Option Expr} {fe : FE} {fl fh : FO} {p2 pos : Pos} (he : SE X w e fe) (hl : SO' X w lo fl) (hh : SO' X w hi fh) : SE X w (.Subscript e (.Slice lo hi none p2) pos) (fCutS fe fl fh) := by
  refine PE.imp (pe_slice sl_str he hl hh) fun σ H Q ⟨B, L, ρ, S, env, A, gg⟩ => ?_
  refine ⟨B, L, ρ, S, env, A, ?_⟩
  revert gg
  unfold fCutS
  cases fe env S with
  | ok d S' =>
    intro g v ρ' H' p R r
    have g' := GO.step g p
    refine ⟨B, L, ρ', S', env, A.step p R, ?_⟩
    revert g'
    show GO (pg X) w.W w.xm B L ρ' H' σ (rD (pg X) B) ((fl env S').bind fun l S2 => (fh env S2).bind fun u S3 => outO (oCutS d l u S3)) Q → _
    cases fl env S' with
    | ok d' S2 =>
      intro g' v2 ρ2 H2 p2 R2 r2
      have g2 := GO.step g' p2
      cases r2
      refine ⟨B, L, ρ2, S2, env, (A.step p R).step p2 R2, ?_⟩
      revert g2
      show GO (pg X) w.W w.xm B L ρ2 H2 σ (rD (pg X) B) ((fh env S2).bind fun u S3 => outO (oCutS d d' u S3)) Q → _
      cases fh env S2 with
      | ok u S3 =>
        intro g2 v3 ρ3 H3 p3 R3 r3
        have g3 := GO.step g2 p3
        cases r3
        obtain ⟨d'', S'', e, q⟩ := GO.outO g3
        have r' : RV X.K B ρ3 H3 d v := (r.mono p2).mono p3
        cases r' with
        | str z =>
          unfold oCutS at e
          simp only at e
          cases hf : fit z.length with
          | false => rw [hf] at e; cases e
          | true => rw [hf] at e; cases e; exact ⟨z, rfl, fit_le hf, here (G := pg X) q R3 (.str _)⟩
        | _ => cases e
      | exc c S' => exact fun g => g
      | bad => exact fun g => g
    | exc c S' => exact fun g => g
    | bad => exact fun g => g
  | exc c S' => exact fun g => g
  | bad => exact fun g => g
/-! str(i), int(text) -/
def oStr : OpN := fun xs S => match xs with
  | [.int i] => bif Nat.blt i.natAbs.log2 1920 then some (.str (PySem.Str.ofString (toString i)), S) else none
  | _ => none
def oInt : OpN := fun xs S => match xs with
  | [.str a] => bif Nat.ble a.length 640 then (match PySem.intText? a with
    | some n => some (.int n, S)
    | none => none) else none
  | _ => none
theorem ok_str : OkN (pg X) (fun xs H Q => ∃ i, xs = [.int i] ∧ i.natAbs.log2 < 1920 ∧ Q (.str (PySem.Str.ofString (toString i))) H) oStr := by
  intro B L ρ S S' H ds d' xs Q R rs e q
  match ds, e with
  | [.int i], e =>
    obtain ⟨x, rfl, r⟩ := rvs1 rs
    cases r
    unfold oStr at e
    simp only at e
    cases hb : Nat.blt i.natAbs.log2 1920 with
    | false => rw [hb] at e; cases e
    | true => rw [hb] at e; cases e; exact ⟨i, rfl, Nat.le_of_ble_eq_true hb, here (G := pg X) q R (.str _)⟩
theorem ok_int : OkN (pg X) (fun xs H Q => ∃ a n, xs = [.str a] ∧ PySem.intText? a = some n ∧ a.length ≤ 640 ∧ Q (.int n) H) oInt := by
  intro B L ρ S S' H ds d' xs Q R rs e q
  match ds, e with
  | [.str a], e =>
    obtain ⟨x, rfl, r⟩ := rvs1 rs
    cases r
    unfold oInt at e
    simp only at e
    cases hb : Nat.ble a.length 640 with
    | false => rw [hb] at e; cases e
    | true =>
      rw [hb] at e
      cases hi : PySem.intText? a with
      | none => rw [hi] at e; cases e
      | some n => rw [hi] at e; cases e; exact ⟨a, n, rfl, hi, Nat.le_of_ble_eq_true hb, here (G := pg X) q R (.int _)⟩
end
end Sf
end

section
set_option Elab.async false
set_option maxRecDepth 100000
set_option linter.all false
/-! Se8: try: .. except C1: return .. except C2: return .., the suite keeps the variables. -/
namespace Sf
open PySem PySem.Spec PyProof.Rows L2
def oEqI : Op2 := fun x y S => match x, y with
  | .int i, .int j => some (.bl (decide (i = j)), S)
  | _, _ => none
theorem ok_eqI {X : Cx} : Ok2 (pg X) rEq oEqI := by
  intro B L ρ S S' H d1 d2 d' x y Q R r1 r2 e q
  cases r1 with
  | int i => cases r2 with
    | int j =>
      cases e
      refine ⟨rfl, ?_⟩
      have : decide (V.int i = V.int j) = decide (i = j) := decide_eq_decide.mpr ⟨fun z => by cases z; rfl, fun z => by rw [z]⟩
      rw [this]
      exact here (G := pg X) q R (.bl _)
    | _ => cases e
  | _ => cases r2 <;> cases e
/-- as GS, but an exception leaves the variables as they were -/
def GK (G : Pg) (W : WX) (xm : XM) (B L ρ : List Addr) (H : Hp) (σ : L2.St) (r : SR) (D : Ends) : Prop :=
  match r with
  | .xc c S' => ∀ ρ' H', Post L ρ H ρ' H' → RH G B L ρ' H' S' → W (xm c) none σ H'
  | r => GS G W xm B L ρ H r D
def tK (G : Pg) (W : WX) (xm : XM) (f : FS) : TS := fun D σ H => ∃ B L ρ S env, At G B L ρ S env σ H ∧ GK G W xm B L ρ H σ (f env S) D
section
variable {G : Pg} {W : WX} {xm : XM} {B L ρ ρ' : List Addr} {H H' : Hp} {σ : L2.St} {r : SR} {D : Ends} {S : Sto} {env : En}
theorem GK.step (g : GK G W xm B L ρ H σ r D) (p : Post L ρ H ρ' H') : GK G W xm B L ρ' H' σ r D := by
  cases r with
  | xc c S' => exact fun ρ2 H2 q R => g ρ2 H2 (p.trans q) R
  | nx e S' => exact GS.step (W := W) (xm := xm) (r := .nx e S') g p
  | bk e S' => exact GS.step (W := W) (xm := xm) (r := .bk e S') g p
  | ct e S' => exact GS.step (W := W) (xm := xm) (r := .ct e S') g p
  | rt e S' => exact GS.step (W := W) (xm := xm) (r := .rt e S') g p
  | bad => exact g
theorem tE_bindK {f : FE} {k : Sf.D → Sto → SR} (A : At G B L ρ S env σ H) (g : GK G W xm B L ρ H σ ((f env S).bindS k) D) :
    tE G W xm f σ H fun x H1 => ∃ B L ρ S d, At G B L ρ S env σ H1 ∧ RV G.K B ρ H1 d x ∧ GK G W xm B L ρ H1 σ (k d S) D := by
  refine ⟨B, L, ρ, S, env, A, ?_⟩
  revert g
  cases f env S with
  | ok d S' => exact fun g v ρ' H' p R r => ⟨B, L, ρ', S', d, A.step p R, r, GK.step g p⟩
  | exc c S' => exact fun g => g
  | bad => exact fun g => g
theorem tT_bindK {f : FT} {k : Bool → Sto → SR} (A : At G B L ρ S env σ H) (g : GK G W xm B L ρ H σ ((f env S).bindS k) D) :
    tT G W xm f σ H fun x H1 => ∃ B L ρ S, At G B L ρ S env σ H1 ∧ GK G W xm B L ρ H1 σ (k x S) D := by
  refine ⟨B, L, ρ, S, env, A, ?_⟩
  revert g
  cases f env S with
  | ok d S' => exact fun g v ρ' H' p R r => ⟨B, L, ρ', S', A.step p R, by cases r; exact GK.step g p⟩
  | exc c S' => exact fun g => g
  | bad => exact fun g => g
end
def noX : SR → SR
  | .xc _ _ => .bad
  | r => r
def sTry2 (c1 : Nat) (g1 : FS) (c2 : Nat) (g2 : FS) (f : FS) : FS := fun env S => match f env S with
  | .xc c S' => bif c == c1 then noX (g1 env S') else bif c == c2 then noX (g2 env S') else .bad
  | r => r
section
variable {X : Cx} {w : Wx} {e c : Expr} {a b : List Stmt} {f g : FS} {fe : FE} {fc : FT} {pos : Pos}
abbrev SKs (X : Cx) (w : Wx) (sts : List Stmt) (f : FS) : Prop := PSs X sts (tK (pg X) w.W w.xm f)
theorem sk_expr (he : SE X w e fe) (hs : swapsWith e none pos.line X.env = pure false := by rfl) : SKs X w [.Expr e pos] (sExpr fe) := PSs.imp (pss_one (ps_expr he hs)) fun D σ H ⟨B, L, ρ, S, env, A, g⟩ =>
  tE_mono (tE_bindK A g) fun x H1 ⟨B, L, ρ, S, d, A, r, g⟩ => GS.nx0 (W := w.W) (xm := w.xm) g A.rh A.re
theorem sk_if (hc : ST X w c fc) (ha : SKs X w a f) (hb : SKs X w b g) : SKs X w [.If c a b pos] (sIf fc f g) := PSs.imp (pss_one (ps_if hc ha hb)) fun D σ H ⟨B, L, ρ, S, env, A, gg⟩ =>
  tT_mono (tT_bindK A gg) fun x H1 ⟨B, L, ρ, S, A, g⟩ => by
    cases x with
    | true => exact iteT ⟨B, L, ρ, S, env, A, g⟩
    | false => exact iteF ⟨B, L, ρ, S, env, A, g⟩
theorem ss_try2 {body s1 s2 : List Stmt} {b1 b2 : Stmt} {f g1 g2 : FS} {x1 x2 : Str} {np1 np2 p1 p2 pos : Pos} {C1 C2 : Addr} {c1 c2 : Nat} (hs : X.stack = X.env :: X.outer) (hf : X.env.frame = some X.env.locals)
    (hc1 : Names X x1 (.ref C1)) (hc2 : Names X x2 (.ref C2)) (tk : Takes X w.W)
    (e11 : PySem.W.exmOne X.K (w.xm c1) (.ref C1) = some true) (e21 : PySem.W.exmOne X.K (w.xm c2) (.ref C1) = some false) (e22 : PySem.W.exmOne X.K (w.xm c2) (.ref C2) = some true)
    (hb : ∀ (W : WX) (pn : List (Addr × Obj)) (xe : Value → Shared → Prop), Takes (X.tr pn xe) W → PassesOwn (model X.prog X.w) X.A X.env xe → SKs (X.tr pn xe) ⟨W, w.xm⟩ body f)
    (h1 : ∀ (a : Addr) (oe : Obj) (pn : List (Addr × Obj)), SSs (X.suite a ((a, oe) :: pn)) ⟨fun _ _ _ _ => False, w.xm⟩ (b1 :: s1) g1) (h2 : ∀ (a : Addr) (oe : Obj) (pn : List (Addr × Obj)), SSs (X.suite a ((a, oe) :: pn)) ⟨fun _ _ _ _ => False, w.xm⟩ (b2 :: s2) g2) :
    SS X w (.Try body [.ExceptHandler (some (.Name x1 np1)) none (b1 :: s1) p1, .ExceptHandler (some (.Name x2 np2)) none (b2 :: s2) p2] [] [] pos) (sTry2 c1 g1 c2 g2 f) := by
  refine PS.imp (ps_try_many (tb := fun W => tK (pg X) W w.xm f) (Wout := w.W)
    (l := [(.ref C1, fun _ _ _ => tS (pg X) (fun _ _ _ _ => False) w.xm g1), (.ref C2, fun _ _ _ => tS (pg X) (fun _ _ _ _ => False) w.xm g2)]) hs hf tk hb
    (.cons hc1 (fun a oe _ _ pn _ _ => h1 a oe pn) (.cons hc2 (fun a oe _ _ pn _ _ => h2 a oe pn) .nil))) fun D σ H ⟨B, L, ρ, S, env, A, gg⟩ => ?_
  refine ⟨B, L, ρ, S, env, A, ?_⟩
  revert gg
  unfold sTry2
  cases f env S with
  | nx e S' => exact fun g => g
  | bk e S' => exact fun g => g
  | ct e S' => exact fun g => g
  | rt e S' => exact fun g => g
  | bad => exact fun g => g
  | xc c S' =>
    intro gg
    simp only at gg
    have noexc : ∀ {g : FS} {ρ' : List Addr} {H' : Hp}, Post L ρ H ρ' H' → RH (pg X) B L ρ' H' S' → GS (pg X) w.W w.xm B L ρ H (noX (g env S')) D → tS (pg X) (fun _ _ _ _ => False) w.xm g D σ H' := by
      intro g ρ' H' p R gg
      refine ⟨B, L, ρ', S', env, ⟨R, A.re.mono p⟩, ?_⟩
      have g3 := GS.step gg p
      revert g3
      unfold noX
      cases g env S' with
      | nx e S' => exact fun g => g
      | bk e S' => exact fun g => g
      | ct e S' => exact fun g => g
      | rt e S' => exact fun g => g
      | bad => exact fun g => g
      | xc k S2 => exact fun g => g.elim
    intro ρ' H' p R
    cases q1 : c == c1 with
    | true =>
      rw [q1] at gg
      obtain rfl := beq_iff_eq.mp q1
      exact ⟨true, e11, fun _ a na => noexc p R gg, (fun z => nomatch z)⟩
    | false =>
      rw [q1] at gg
      cases q2 : c == c2 with
      | false => rw [q2] at gg; exact gg.elim
      | true =>
        rw [q2] at gg
        obtain rfl := beq_iff_eq.mp q2
        exact ⟨false, e21, (fun z => nomatch z), fun _ => ⟨true, e22, fun _ a na => noexc p R gg, (fun z => nomatch z)⟩⟩
end
end Sf
end

section
set_option Elab.async false
set_option maxRecDepth 100000
/-! the defs as terms -/
namespace Sf
open PySem L2
def b_is_count : FS := sRet (fAnd (fOpN oIsa (fCons (fVar 0) (fCons (fCon (.glob (.ty "int"))) (fNil)))) (fAnd (fNot (fOpN oIsa (fCons (fVar 0) (fCons (fCon (.glob (.ty "bool"))) (fNil))))) (fChain (fun i j => decide (i ≤ j)) (fun i j => decide (i ≤ j)) (fVar 1) (fVar 0) (fVar 2))))
def f_is_count : Fn := fn false 3 b_is_count
def b_round_winner : FS := sSeq (sAsgT [2, 3, 4] (fVar 0))
    (sSeq (sAsg 5 (fIf (tVal (fOp2 oGt (fOp2 oIx (fVar 1) (fCon (.int 0))) (fOp2 oIx (fVar 1) (fCon (.int 1))))) (fCon (.int 0)) (fCon (.int 1))))
    (sSeq (sIf (Sf.tOr (Sf.tAnd (tVal (fOp2 oGe (fOp2 oIx (fVar 1) (fVar 5)) (fVar 2))) (tVal (fOp2 oGe (fOp2 (oSub) (fOp2 oIx (fVar 1) (fVar 5)) (fOp2 oIx (fVar 1) (fOp2 (oSub) (fCon (.int 1)) (fVar 5)))) (fVar 3)))) (tVal (fOp2 oEq (fOp2 oIx (fVar 1) (fVar 5)) (fVar 4)))) (sRet (fVar 5)) (sSkip))
    (sRet (fCon .non))))
def f_round_winner : Fn := fn false 6 b_round_winner
def b_start_of : FS := sRet (fOp2 (oMul false) (fTup (fCons (fTup (fCons (fCon (.int 0)) (fCons (fCon (.int 0)) (fNil)))) (fNil))) (fOpN oLen (fCons (fVar 0) (fNil))))
def f_start_of : Fn := fn false 1 b_start_of
def b_plus : FS := sRet (fIf (tVal (fOp2 oEq (fVar 1) (fCon (.int 0)))) (fTup (fCons (fOp2 (oAdd false) (fOp2 oIx (fVar 0) (fCon (.int 0))) (fCon (.int 1))) (fCons (fOp2 oIx (fVar 0) (fCon (.int 1))) (fNil)))) (fTup (fCons (fOp2 oIx (fVar 0) (fCon (.int 0))) (fCons (fOp2 (oAdd false) (fOp2 oIx (fVar 0) (fCon (.int 1))) (fCon (.int 1))) (fNil)))))
def f_plus : Fn := fn false 2 b_plus
def b_settled : FS := sSeq (sAsg 2 (fLst true (fNil)))
    (sSeq (sFor (iOf kZip (fCons (fVar 0) (fCons (fVar 1) (fNil)))) (unTup [3, 4]) (sSeq (sAsg 5 (fIf (tVal (fOp2 oIs (fOp2 oIx (fVar 3) (fCon (.int 2))) (fCon .non))) (fOp2 (oAdd false) (fOp2 (oSub) (fOpN oMin (fCons (fVar 4) (fNil))) (fOp2 oIx (fVar 3) (fCon (.int 0)))) (fCon (.int 1))) (fCon (.int 0))))
    (sExpr (fMethL mAppend (fVar 2) (fCons (fIf (tVal (fOp2 oGt (fVar 5) (fCon (.int 0)))) (fTup (fCons (fOp2 (oSub) (fOp2 oIx (fVar 4) (fCon (.int 0))) (fVar 5)) (fCons (fOp2 (oSub) (fOp2 oIx (fVar 4) (fCon (.int 1))) (fVar 5)) (fNil)))) (fVar 4)) (fNil))))))
    (sRet (fOpN (oTuple) (fCons (fVar 2) (fNil)))))
def f_settled : Fn := fn false 6 b_settled
def b_least_units : FS := sSeq (sAsgT [1, 2, 3] (fVar 0))
    (sRet (fIf (tVal (fOp2 oIs (fVar 3) (fCon .non))) (fOpN oMax2 (fCons (fVar 1) (fCons (fVar 2) (fNil)))) (fOpN oMin2 (fCons (fOpN oMax2 (fCons (fVar 1) (fCons (fVar 2) (fNil)))) (fCons (fVar 3) (fNil))))))
def f_least_units : Fn := fn false 4 b_least_units
def b_Board___len__ : FS := sRet (fOpN oLen (fCons (fOp1 (getF "points") (fVar 0)) (fNil)))
def f_Board___len__ : Fn := fn false 1 b_Board___len__
def b_lowest : FS := sSeq (sPar2 2 3 (fCons (fOpN oAbs (fCons (fVar 0) (fNil))) (fCons (fOpN oAbs (fCons (fVar 1) (fNil))) (fNil))))
    (sSeq (whileL (tVal (fOp2 oGt (fVar 3) (fCon (.int 0)))) (sPar2 2 3 (fCons (fVar 3) (fCons (fOp2 (oMod) (fVar 2) (fVar 3)) (fNil)))) 100000)
    (sSeq (sAsg 2 (fIf (tVal (fOp2 oLt (fVar 1) (fCon (.int 0)))) (fOp1 oNeg (fVar 2)) (fVar 2)))
    (sRet (fTup (fCons (fOp2 (oFdiv) (fVar 0) (fVar 2)) (fCons (fOp2 (oFdiv) (fVar 1) (fVar 2)) (fNil)))))))
def f_lowest : Fn := fn false 4 b_lowest
def b_power : FS := sSeq (sAsg 2 (fCon (.int 1)))
    (sSeq (sFor (iOf kRng1 (fCons (fVar 1) (fNil))) (tgName 3) (sAug 2 oMulI (fVar 0)))
    (sRet (fVar 2)))
def f_power : Fn := fn false 4 b_power
def b_formatted : FS := sSeq (sAsg 1 (fLst true (fNil)))
    (sSeq (sFor (iSq (fVar 0)) (unTup [2, 3, 4]) (sExpr (fMethL mAppend (fVar 1) (fCons (fOp2 (oAdd false) (fOp2 (oAdd false) (fOp2 (oAdd false) (fOpN (oStr) (fCons (fVar 2) (fNil))) (fCon (.str "/"))) (fOpN (oStr) (fCons (fVar 3) (fNil)))) (fIf (tVal (fOp2 oIs (fVar 4) (fCon .non))) (fCon (.str "")) (fOp2 (oAdd false) (fCon (.str "-")) (fOpN (oStr) (fCons (fVar 4) (fNil)))))) (fNil)))))
    (sRet (fMethS mJoin (fCon (.str " ")) (fCons (fVar 1) (fNil)))))
def f_formatted : Fn := fn false 5 b_formatted
def b_number_of : FS := sRet (fIf (Sf.tAnd (tVal (fOp2 oEq (fOpN oLen (fCons (fVar 0) (fNil))) (fCon (.int 1)))) (tVal (fOp2 oInS (fVar 0) (fCon (.str "0123456789"))))) (fOpN (oInt) (fCons (fVar 0) (fNil))) (fCon (.int 0)))
def f_number_of : Fn := fn false 1 b_number_of
def b_row_to : FS := sSeq (sAsg 2 (fLst true (fNil)))
    (sSeq (whileL (tVal (fOp2 oIsN (fOp2 oGetX (fVar 0) (fVar 1)) (fCon .non))) (sSeq (sAsgT [1, 3] (fOp2 oGetX (fVar 0) (fVar 1)))
    (sExpr (fMethL mAppend (fVar 2) (fCons (fVar 3) (fNil))))) 100000)
    (sRet (fOp1 (oRev false) (fVar 2))))
def f_row_to : Fn := fn false 4 b_row_to
def b__law_draw : FS := sSeq (sIf (tVal (fOp2 oGt (fOp2 oIx (fVar 1) (fCon (.int 1))) (fCon (.int 0)))) (sSeq (sAsg 3 (fOp2 (oMod) (fOp2 oIx (fVar 1) (fCon (.int 1))) (fVar 2)))
    (sSeq (sAsgIx (fOp2 (oFdiv) (fOp2 oIx (fVar 1) (fCon (.int 1))) (fVar 2)) (fVar 1) (fCon (.int 1)))
    (sRet (fVar 3)))) (sSkip))
    (sSeq (sAsg 4 (fOp2 oIx (fVar 1) (fCon (.int 0))))
    (sSeq (sAugIx oAddI (fVar 1) (fCon (.int 0)) (fCon (.int 1)))
    (sSeq (sIf (tVal (fOp2 oEq (fVar 0) (fLst false (fNil)))) (sRet (fOp2 (oMod) (fVar 4) (fVar 2))) (sSkip))
    (sSeq (sIf (Sf.tAnd (tVal (fOp2 oLt (fVar 4) (fOpN oLen (fCons (fVar 0) (fNil))))) (tVal (fOp2 oGe (fOp2 oIx (fVar 0) (fVar 4)) (fOp2 (oPow) (fCon (.int 10)) (fCon (.int 18)))))) (sSeq (sAsgIx (fOp2 (oMod) (fOp2 (oFdiv) (fOp2 oIx (fVar 0) (fVar 4)) (fVar 2)) (fOp2 (oMul false) (fOp2 (oPow) (fCon (.int 10)) (fCon (.int 60))) (fOp2 (oPow) (fCon (.int 10)) (fCon (.int 60))))) (fVar 1) (fCon (.int 1)))
    (sRet (fOp2 (oMod) (fOp2 oIx (fVar 0) (fVar 4)) (fVar 2)))) (sSkip))
    (sSeq (sAsg 5 (fOp2 (oMod) (fOp2 (oAdd false) (fOp2 (oAdd false) (fOp2 (oMul false) (fOp2 oIx (fVar 0) (fOp2 (oMod) (fVar 4) (fOpN oLen (fCons (fVar 0) (fNil))))) (fCon (.int 1103515245))) (fOp2 (oMul false) (fCon (.int 7919)) (fVar 4))) (fCon (.int 12345))) (fCon (.int 2147483647))))
    (sRet (fOp2 (oMod) (fOp2 (oMod) (fOp2 (oMod) (fOp2 (oPow) (fVar 5) (fCon (.int 5))) (fCon (.int 2147483647))) (fCon (.int 999983))) (fVar 2))))))))
def f__law_draw : Fn := fn false 6 b__law_draw
def b__law_turned : FS := sRet (fIf (tVal (fOp2 oEq (fVar 1) (fCon (.int 0)))) (fVar 0) (fOp1 (oRevA false) (fVar 0)))
def f__law_turned : Fn := fn false 2 b__law_turned
def b_is_level : FS := sSeq (sIf (Sf.tOr (tNot (tVal (fOpN oIsa (fCons (fVar 0) (fCons (fCon (.glob (.ty "tuple"))) (fNil)))))) (Sf.tOr (tVal (fOp2 oNe (fOpN oLen (fCons (fVar 0) (fNil))) (fCon (.int 3)))) (tNot (tVal (fCall (pureF f_is_count) (fCons (fOp2 oIx (fVar 0) (fCon (.int 0))) (fCons (fCon (.int 1)) (fCons (fCon (.int 5)) (fNil))))))))) (sRet (fCon (.bl false))) (sSkip))
    (sRet (fAnd (fCall (pureF f_is_count) (fCons (fOp2 oIx (fVar 0) (fCon (.int 1))) (fCons (fCon (.int 1)) (fCons (fCon (.int 3)) (fNil))))) (fOr (fOp2 oIs (fOp2 oIx (fVar 0) (fCon (.int 2))) (fCon .non)) (fCall (pureF f_is_count) (fCons (fOp2 oIx (fVar 0) (fCon (.int 2))) (fCons (fOp2 oIx (fVar 0) (fCon (.int 0))) (fCons (fCon (.int 9)) (fNil))))))))
def f_is_level : Fn := fn false 1 b_is_level
def b_is_side : FS := sRet (fCall (pureF f_is_count) (fCons (fVar 0) (fCons (fCon (.int 0)) (fCons (fCon (.int 1)) (fNil)))))
def f_is_side : Fn := fn false 1 b_is_side
def b_after : FS := sSeq (sAsg 3 (fOpN (oList true) (fCons (fVar 1) (fNil))))
    (sSeq (sFor (iOf kEnum (fCons (fVar 0) (fNil))) (unTup [4, 5]) (sSeq (sAsgIx (fCall (pureF f_plus) (fCons (fOp2 oIx (fVar 3) (fVar 4)) (fCons (fVar 2) (fNil)))) (fVar 3) (fVar 4))
    (sSeq (sAsg 6 (fCall (pureF f_round_winner) (fCons (fVar 5) (fCons (fOp2 oIx (fVar 3) (fVar 4)) (fNil)))))
    (sSeq (sIf (tVal (fOp2 oIs (fVar 6) (fCon .non))) (sBreak) (sSkip))
    (sSeq (sIf (tVal (fOp2 oEq (fOp2 (oAdd false) (fVar 4) (fCon (.int 1))) (fOpN oLen (fCons (fVar 0) (fNil))))) (sRet (fTup (fCons (fOpN (oTuple) (fCons (fVar 3) (fNil))) (fCons (fVar 6) (fNil))))) (sSkip))
    (sAsgIx (fTup (fCons (fCon (.int 0)) (fCons (fCon (.int 0)) (fNil)))) (fVar 3) (fVar 4)))))))
    (sRet (fTup (fCons (fOpN (oTuple) (fCons (fVar 3) (fNil))) (fCons (fCon .non) (fNil))))))
def f_after : Fn := fn false 7 b_after
def b_rounds : FS := sSeq (sAsg 1 (fIf (tVal (fOp2 oIs (fOp2 oIx (fVar 0) (fCon (.int 2))) (fCon .non))) (fOp2 (oAdd false) (fOp2 oIx (fVar 0) (fCon (.int 0))) (fOp2 oIx (fVar 0) (fCon (.int 1)))) (fOp2 oIx (fVar 0) (fCon (.int 2)))))
    (sSeq (sPar2 2 3 (fCons (fDct1 (fTup (fCons (fCon (.int 0)) (fCons (fCon (.int 0)) (fNil)))) (fLst false (fNil))) (fCons (fLst true (fCons (fTup (fCons (fCon (.int 0)) (fCons (fCon (.int 0)) (fNil)))) (fNil))) (fNil))))
    (sSeq (sAsg 4 (fLst true (fNil)))
    (sSeq (sFor (iOf kRng1 (fCons (fOp2 (oMul false) (fOp2 (oAdd false) (fVar 1) (fCon (.int 2))) (fOp2 (oAdd false) (fVar 1) (fCon (.int 2)))) (fNil))) (tgName 5) (sSeq (sIf (tVal (fOp2 oEq (fVar 5) (fOpN oLen (fCons (fVar 3) (fNil))))) (sBreak) (sSkip))
    (sSeq (sAsg 6 (fOp2 oIx (fVar 3) (fVar 5)))
    (sFor (iSq (fTup (fCons (fCon (.int 0)) (fCons (fCon (.int 1)) (fNil))))) (tgName 7) (sSeq (sAsg 8 (fCall (pureF f_plus) (fCons (fVar 6) (fCons (fVar 7) (fNil)))))
    (sIf (Sf.tAnd (tVal (fOp2 oLe (fOpN oMax (fCons (fVar 8) (fNil))) (fVar 1))) (tVal (fOp2 oNinX (fVar 8) (fVar 2)))) (sSeq (sAsgX (fOp2 (oAdd false) (fOp2 oGetX (fVar 2) (fVar 6)) (fLst false (fCons (fVar 7) (fNil)))) (fVar 2) (fVar 8))
    (sIf (tVal (fOp2 oIs (fCall (pureF f_round_winner) (fCons (fVar 0) (fCons (fVar 8) (fNil)))) (fCon .non))) (sExpr (fMethL mAppend (fVar 3) (fCons (fVar 8) (fNil)))) (sExpr (fMethL mAppend (fVar 4) (fCons (fOp2 oGetX (fVar 2) (fVar 8)) (fNil)))))) (sSkip)))))))
    (sRet (fVar 4)))))
def f_rounds : Fn := fn false 9 b_rounds
def b_times : FS := sRet (fCall (pureF f_lowest) (fCons (fOp2 (oMul false) (fOp2 oIx (fVar 0) (fCon (.int 0))) (fOp2 oIx (fVar 1) (fCon (.int 0)))) (fCons (fOp2 (oMul false) (fOp2 oIx (fVar 0) (fCon (.int 1))) (fOp2 oIx (fVar 1) (fCon (.int 1)))) (fNil))))
def f_times : Fn := fn false 2 b_times
def b_added : FS := sRet (fCall (pureF f_lowest) (fCons (fOp2 (oAdd false) (fOp2 (oMul false) (fOp2 oIx (fVar 0) (fCon (.int 0))) (fOp2 oIx (fVar 1) (fCon (.int 1)))) (fOp2 (oMul false) (fOp2 oIx (fVar 1) (fCon (.int 0))) (fOp2 oIx (fVar 0) (fCon (.int 1))))) (fCons (fOp2 (oMul false) (fOp2 oIx (fVar 0) (fCon (.int 1))) (fOp2 oIx (fVar 1) (fCon (.int 1)))) (fNil))))
def f_added : Fn := fn false 2 b_added
def b_ends_of : FS := sSeq (sPar2 1 2 (fCons (fDct1 (fTup (fCons (fCon (.int 0)) (fCons (fCon (.int 0)) (fNil)))) (fCon (.int 1))) (fCons (fDct0) (fNil))))
    (sSeq (whileL (tVal (fNeE (fVar 1))) (sSeq (sAsg 3 (fDct0))
    (sSeq (sLock 1 (sFor (iKeysD (fVar 1)) (tgName 4) (sFor (iSq (fTup (fCons (fCon (.int 0)) (fCons (fCon (.int 1)) (fNil))))) (tgName 5) (sSeq (sAsg 6 (fCall (pureF f_plus) (fCons (fVar 4) (fCons (fVar 5) (fNil)))))
    (sSeq (sAsg 7 (fOr (fOp2 oIsN (fCall (pureF f_round_winner) (fCons (fVar 0) (fCons (fVar 6) (fNil)))) (fCon .non)) (fAnd (fOp2 oIs (fOp2 oIx (fVar 0) (fCon (.int 2))) (fCon .non)) (fOp2 oGe (fOpN oMin (fCons (fVar 6) (fNil))) (fOp2 oIx (fVar 0) (fCon (.int 0)))))))
    (sSeq (sAsg 8 (fIf (tVal (fVar 7)) (fVar 2) (fVar 3)))
    (sAsgX (fOp2 (oAdd false) (fGetX (fVar 8) (fVar 6) (fCon (.int 0))) (fOp2 oGetX (fVar 1) (fVar 4))) (fVar 8) (fVar 6))))))))
    (sAsg 1 (fVar 3)))) 100000)
    (sRet (fVar 2)))
def f_ends_of : Fn := fn true 9 b_ends_of
def b_need_chance : FS := sSeq (sIf (Sf.tOr (tNot (tVal (fOpN oIsa (fCons (fVar 0) (fCons (fCon (.glob (.ty "tuple"))) (fNil)))))) (Sf.tOr (tVal (fOp2 oNe (fOpN oLen (fCons (fVar 0) (fNil))) (fCon (.int 2)))) (tNot (tVal (fCall (pureF f_is_count) (fCons (fOp2 oIx (fVar 0) (fCon (.int 1))) (fCons (fCon (.int 1)) (fCons (fCon (.int 1000)) (fNil))))))))) (sBad) (sSkip))
    (sIf (tNot (tVal (fCall (pureF f_is_count) (fCons (fOp2 oIx (fVar 0) (fCon (.int 0))) (fCons (fCon (.int 0)) (fCons (fOp2 oIx (fVar 0) (fCon (.int 1))) (fNil))))))) (sBad) (sSkip))
def f_need_chance : Fn := fn false 1 b_need_chance
def b_parsed_level : FS := sSeq (sAsgT [1, 2, 3] (fMethS mPart (fVar 0) (fCons (fCon (.str "/")) (fNil))))
    (sSeq (sAsgT [4, 5, 6] (fMethS mPart (fVar 3) (fCons (fCon (.str "-")) (fNil))))
    (sRet (fTup (fCons (fCall (pureF f_number_of) (fCons (fVar 1) (fNil))) (fCons (fCall (pureF f_number_of) (fCons (fVar 4) (fNil))) (fCons (fIf (tVal (fOp2 oNe (fVar 5) (fCon (.str "")))) (fCall (pureF f_number_of) (fCons (fVar 6) (fNil))) (fCon .non)) (fNil)))))))
def f_parsed_level : Fn := fn false 7 b_parsed_level
def b_is_form : FS := sRet (fAnd (fOpN oIsa (fCons (fVar 0) (fCons (fCon (.glob (.ty "tuple"))) (fNil)))) (fAnd (fChain (fun i j => decide (i ≤ j)) (fun i j => decide (i ≤ j)) (fCon (.int 1)) (fOpN oLen (fCons (fVar 0) (fNil))) (fCon (.int 3))) (fOpN oAll (fCons (fComp false (iSq (fVar 0)) (tgName 1) (tYesF) (fCall (pureF f_is_level) (fCons (fVar 1) (fNil))) [1]) (fNil)))))
def f_is_form : Fn := fn false 2 b_is_form
def b_need_side : FS := sIf (tNot (tVal (fCall (pureF f_is_side) (fCons (fVar 0) (fNil))))) (sBad) (sSkip)
def f_need_side : Fn := fn false 1 b_need_side
def b_need_row : FS := sIf (Sf.tOr (tNot (tVal (fOpN oIsa (fCons (fVar 0) (fCons (fTup (fCons (fCon (.glob (.ty "list"))) (fCons (fCon (.glob (.ty "tuple"))) (fNil)))) (fNil)))))) (Sf.tOr (tVal (fOp2 oGt (fOpN oLen (fCons (fVar 0) (fNil))) (fCon (.int 200)))) (tNot (tVal (fOpN oAll (fCons (fComp false (iSq (fVar 0)) (tgName 1) (tYesF) (fCall (pureF f_is_side) (fCons (fVar 1) (fNil))) [1]) (fNil))))))) (sBad) (sSkip)
def f_need_row : Fn := fn false 2 b_need_row
def b_played : FS := sSeq (sPar3 2 3 4 (fCons (fCall (pureF f_start_of) (fCons (fVar 0) (fNil))) (fCons (fCon .non) (fCons (fCon (.int 0)) (fNil)))))
    (sSeq (sForD (fVar 1) (tgName 5) (sIf (tVal (fOp2 oIs (fVar 3) (fCon .non))) (sSeq (sAsgT [2, 3] (fCall (pureF f_after) (fCons (fVar 0) (fCons (fVar 2) (fCons (fVar 5) (fNil))))))
    (sAug 4 oAddI (fCon (.int 1)))) (sSkip)))
    (sRet (fTup (fCons (fVar 2) (fCons (fVar 3) (fCons (fVar 4) (fNil)))))))
def f_played : Fn := fn false 6 b_played
def b_needs_at : FS := sSeq (sIf (tVal (fOp2 oIsN (fVar 2) (fCon .non))) (sRet (fIf (tVal (fOp2 oEq (fVar 2) (fVar 3))) (fCon (.int 0)) (fCon .non))) (sSkip))
    (sSeq (sAsg 4 (fCon (.int 0)))
    (sSeq (whileL (tVal (fOp2 oIs (fVar 2) (fCon .non))) (sSeq (sAsgT [1, 2] (fCall (pureF f_after) (fCons (fVar 0) (fCons (fVar 1) (fCons (fVar 3) (fNil))))))
    (sAug 4 oAddI (fCon (.int 1)))) 100000)
    (sRet (fVar 4))))
def f_needs_at : Fn := fn false 5 b_needs_at
def b_with_losses : FS := sSeq (sPar2 4 5 (fCons (fLst true (fNil)) (fCons (fOpN (oList true) (fCons (fVar 1) (fNil))) (fNil))))
    (sSeq (whileL (tVal (fOp2 oNe (fVar 5) (fLst false (fNil)))) (sSeq (sAsg 6 (fMethL mPop (fVar 5) fNil))
    (sIf (tVal (fOp2 oNinX (fVar 6) (fVar 2))) (sSeq (sAsgX (fCon (.bl true)) (fVar 2) (fVar 6))
    (sSeq (sExpr (fMethL mAppend (fVar 4) (fCons (fVar 6) (fNil))))
    (sSeq (sAsgT [7, 8] (fCall (pureF f_after) (fCons (fVar 0) (fCons (fVar 6) (fCons (fOp2 (oSub) (fCon (.int 1)) (fVar 3)) (fNil))))))
    (sIf (tVal (fOp2 oIs (fVar 8) (fCon .non))) (sExpr (fMethL mAppend (fVar 5) (fCons (fCall (pureF f_settled) (fCons (fVar 0) (fCons (fVar 7) (fNil)))) (fNil)))) (sSkip))))) (sSkip))) 100000)
    (sRet (fVar 4)))
def f_with_losses : Fn := fn false 9 b_with_losses
def b_most_units : FS := sSeq (sIf (Sf.tAnd (tVal (fOp2 oIs (fOp2 oIx (fVar 0) (fCon (.int 2))) (fCon .non))) (tVal (fOp2 oGt (fOp2 oIx (fVar 0) (fCon (.int 1))) (fCon (.int 1))))) (sRet (fCon .non)) (sSkip))
    (sRet (fOpN oMax (fCons (fComp false (iSq (fCall (pureF f_rounds) (fCons (fVar 0) (fNil)))) (tgName 1) (tYesF) (fOpN oLen (fCons (fVar 1) (fNil))) [1]) (fNil))))
def f_most_units : Fn := fn false 2 b_most_units
def b_best_row : FS := sSeq (sAsg 3 (fCon .non))
    (sSeq (sFor (iSq (fCall (pureF f_rounds) (fCons (fVar 0) (fNil)))) (tgName 4) (sIf (tVal (fOp2 oEq (fCall (pureF f_round_winner) (fCons (fVar 0) (fCons (fTup (fCons (fMethL mCount (fVar 4) (fCons (fCon (.int 0)) (fNil))) (fCons (fMethL mCount (fVar 4) (fCons (fCon (.int 1)) (fNil))) (fNil)))) (fNil)))) (fIf (tVal (fVar 1)) (fCon (.int 0)) (fCon (.int 1))))) (sSeq (sAsg 5 (fOpN oSum (fCons (fComp false (iSq (fVar 4)) (tgName 7) (tYesF) (fOp2 oIx (fOp2 oIx (fVar 2) (fVar 7)) (fCon (.int 0))) [7]) (fNil))))
    (sSeq (sAsg 6 (fOpN oSum (fCons (fComp false (iSq (fVar 4)) (tgName 7) (tYesF) (fOp2 oIx (fOp2 oIx (fVar 2) (fVar 7)) (fCon (.int 1))) [7]) (fNil))))
    (sIf (Sf.tOr (tVal (fOp2 oIs (fVar 3) (fCon .non))) (tVal (fOp2 oLt (fTup (fCons (fOp1 oNeg (fVar 5)) (fCons (fVar 6) (fNil)))) (fCut false (fVar 3) (fNoPart) (fPart (fCon (.int 2))))))) (sAsg 3 (fTup (fCons (fOp1 oNeg (fVar 5)) (fCons (fVar 6) (fCons (fVar 4) (fNil)))))) (sSkip)))) (sSkip)))
    (sRet (fTup (fCons (fOp1 oNeg (fOp2 oIx (fVar 3) (fCon (.int 0)))) (fCons (fOp2 oIx (fVar 3) (fCon (.int 1))) (fCons (fOp2 oIx (fVar 3) (fCon (.int 2))) (fNil)))))))
def f_best_row : Fn := fn false 8 b_best_row
def b_walk : FS := sSeq (sPar2 3 4 (fCons (fOp2 oIx (fVar 0) (fCon (.int 0))) (fCons (fOp2 (oSub) (fOp2 oIx (fVar 0) (fCon (.int 1))) (fOp2 oIx (fVar 0) (fCon (.int 0)))) (fNil))))
    (sSeq (sPar2 5 6 (fCons (fOp2 (oAdd false) (fVar 1) (fVar 2)) (fCons (fOp2 (oSub) (fVar 1) (fVar 2)) (fNil))))
    (sSeq (sIf (tVal (fOp2 oEq (fVar 3) (fVar 4))) (sRet (fTup (fCons (fCall (pureF f_lowest) (fCons (fVar 5) (fCons (fOp2 (oMul false) (fCon (.int 2)) (fVar 1)) (fNil)))) (fCons (fTup (fCons (fOp2 (oMul false) (fVar 5) (fVar 6)) (fCons (fCon (.int 1)) (fNil)))) (fNil))))) (sSkip))
    (sSeq (sAsg 7 (fOp2 (oMul false) (fCall (pureF f_power) (fCons (fVar 3) (fCons (fVar 6) (fNil)))) (fOp2 (oSub) (fCall (pureF f_power) (fCons (fVar 3) (fCons (fVar 5) (fNil)))) (fCall (pureF f_power) (fCons (fVar 4) (fCons (fVar 5) (fNil)))))))
    (sSeq (sAsg 8 (fOp2 (oSub) (fCall (pureF f_power) (fCons (fVar 3) (fCons (fOp2 (oMul false) (fCon (.int 2)) (fVar 1)) (fNil)))) (fCall (pureF f_power) (fCons (fVar 4) (fCons (fOp2 (oMul false) (fCon (.int 2)) (fVar 1)) (fNil))))))
    (sSeq (sAsg 9 (fCall (pureF f_lowest) (fCons (fVar 7) (fCons (fVar 8) (fNil)))))
    (sSeq (sAsg 10 (fCall (pureF f_added) (fCons (fTup (fCons (fOp2 (oMul false) (fOp2 (oMul false) (fCon (.int 2)) (fVar 1)) (fOp2 oIx (fVar 9) (fCon (.int 0)))) (fCons (fOp2 oIx (fVar 9) (fCon (.int 1))) (fNil)))) (fCons (fTup (fCons (fOp1 oNeg (fVar 5)) (fCons (fCon (.int 1)) (fNil)))) (fNil)))))
    (sRet (fTup (fCons (fVar 9) (fCons (fCall (pureF f_times) (fCons (fVar 10) (fCons (fCall (pureF f_lowest) (fCons (fOp2 oIx (fVar 0) (fCon (.int 1))) (fCons (fOp2 (oSub) (fVar 3) (fVar 4)) (fNil)))) (fNil)))) (fNil)))))))))))
def f_walk : Fn := fn false 11 b_walk
def b_need_form : FS := sIf (tNot (tVal (fCall (pureF f_is_form) (fCons (fVar 0) (fNil))))) (sBad) (sSkip)
def f_need_form : Fn := fn false 1 b_need_form
def b_surpluses : FS := sSeq (sPar2 1 2 (fCons (fTup (fCons (fTup (fCons (fOp1 oNeg (fCon (.int 1))) (fCons (fCon (.int 1)) (fNil)))) (fCons (fTup (fCons (fCon (.int 1)) (fCons (fCon (.int 1)) (fNil)))) (fNil)))) (fCons (fLst true (fNil)) (fNil))))
    (sSeq (sFor (iSq (fVar 0)) (tgName 3) (sSeq (sIf (Sf.tAnd (tVal (fOp2 oIs (fOp2 oIx (fVar 3) (fCon (.int 2))) (fCon .non))) (Sf.tAnd (tVal (fOp2 oGt (fOp2 oIx (fVar 3) (fCon (.int 1))) (fCon (.int 1)))) (tVal (fOp2 oGt (fOp2 (oAdd false) (fOp2 oIx (fOp2 oIx (fVar 1) (fCon (.int 0))) (fCon (.int 0))) (fOp2 oIx (fOp2 oIx (fVar 1) (fCon (.int 1))) (fCon (.int 0)))) (fCon (.int 0)))))) (sRet (fCon .non)) (sSkip))
    (sSeq (sPar2 4 5 (fCons (fCall (pureF f_best_row) (fCons (fVar 3) (fCons (fCon (.bl true)) (fCons (fVar 1) (fNil))))) (fCons (fCall (pureF f_best_row) (fCons (fVar 3) (fCons (fCon (.bl false)) (fCons (fVar 1) (fNil))))) (fNil))))
    (sSeq (sExpr (fMethL mAppend (fVar 2) (fCons (fTup (fCons (fVar 4) (fCons (fVar 5) (fNil)))) (fNil))))
    (sAsg 1 (fTup (fCons (fCut false (fVar 4) (fNoPart) (fPart (fCon (.int 2)))) (fCons (fCut false (fVar 5) (fNoPart) (fPart (fCon (.int 2)))) (fNil)))))))))
    (sRet (fVar 2)))
def f_surpluses : Fn := fn false 6 b_surpluses
def b_points_of (r_points_of : Fn) : FS := sSeq (sIf (tVal (fOp2 oLt (fVar 1) (fCon (.int 0)))) (sRet (fLst false (fCons (fVar 2) (fNil)))) (sSkip))
    (sSeq (sAsg 3 (fLst true (fNil)))
    (sSeq (sFor (iSq (fOp2 oIx (fOp2 oIx (fOp2 oIx (fVar 0) (fVar 1)) (fVar 2)) (fCon (.int 2)))) (tgName 4) (sExpr (fMethL mExtend (fVar 3) (fCons (fCall (pureF r_points_of) (fCons (fVar 0) (fCons (fOp2 (oSub) (fVar 1) (fCon (.int 1))) (fCons (fVar 4) (fNil))))) (fNil)))))
    (sRet (fVar 3))))
def f_points_of : Nat → Fn
  | 0 => fun _ _ => .bad
  | k + 1 => fn false 5 (b_points_of (f_points_of k))
def b_Board_score : FS := sRet (fOp2 oIx (fCall f_played (fCons (fOp1 (getF "form") (fVar 0)) (fCons (fOp1 (getF "points") (fVar 0)) (fNil)))) (fCon (.int 0)))
def f_Board_score : Fn := fn false 1 b_Board_score
def b_Board_winner : FS := sRet (fOp2 oIx (fCall f_played (fCons (fOp1 (getF "form") (fVar 0)) (fCons (fOp1 (getF "points") (fVar 0)) (fNil)))) (fCon (.int 1)))
def f_Board_winner : Fn := fn false 1 b_Board_winner
def b_round_of : FS := sSeq (sAsg 2 (fCall f_ends_of (fCons (fVar 0) (fNil))))
    (sSeq (sPar2 4 5 (fCons (fOpN oMax (fCons (fLock 2 (fComp false (iKeysD (fVar 2)) (tgName 3) (tYesF) (fOpN oSum (fCons (fVar 3) (fNil))) [3])) (fNil))) (fCons (fOp2 (oSub) (fOp2 oIx (fVar 1) (fCon (.int 1))) (fOp2 oIx (fVar 1) (fCon (.int 0)))) (fNil))))
    (sSeq (sPar3 6 7 8 (fCons (fCon (.int 0)) (fCons (fCon (.int 0)) (fCons (fDki0) (fNil)))))
    (sSeq (sLock 2 (sFor (iKeysD (fVar 2)) (tgName 3) (sSeq (sAsg 9 (fOp2 (oMul false) (fOp2 (oMul false) (fOp2 (oMul false) (fOp2 oGetX (fVar 2) (fVar 3)) (fCall (pureF f_power) (fCons (fOp2 oIx (fVar 1) (fCon (.int 0))) (fCons (fOp2 oIx (fVar 3) (fCon (.int 0))) (fNil))))) (fCall (pureF f_power) (fCons (fVar 5) (fCons (fOp2 oIx (fVar 3) (fCon (.int 1))) (fNil))))) (fCall (pureF f_power) (fCons (fOp2 oIx (fVar 1) (fCon (.int 1))) (fCons (fOp2 (oSub) (fVar 4) (fOpN oSum (fCons (fVar 3) (fNil)))) (fNil))))))
    (sSeq (sAug 7 oAddI (fOp2 (oMul false) (fVar 9) (fOpN oSum (fCons (fVar 3) (fNil)))))
    (sSeq (sAsg 10 (fCall (pureF f_round_winner) (fCons (fVar 0) (fCons (fVar 3) (fNil)))))
    (sIf (tVal (fOp2 oIs (fVar 10) (fCon .non))) (sAsgX (fOp2 (oAdd false) (fGetX (fVar 8) (fOp2 (oSub) (fOp2 oIx (fVar 3) (fCon (.int 0))) (fOp2 oIx (fVar 3) (fCon (.int 1)))) (fCon (.int 0))) (fVar 9)) (fVar 8) (fOp2 (oSub) (fOp2 oIx (fVar 3) (fCon (.int 0))) (fOp2 oIx (fVar 3) (fCon (.int 1))))) (sIf (tVal (fOp2 oEq (fVar 10) (fCon (.int 0)))) (sAug 6 oAddI (fVar 9)) (sSkip))))))))
    (sSeq (sAsg 11 (fCall (pureF f_power) (fCons (fOp2 oIx (fVar 1) (fCon (.int 1))) (fCons (fVar 4) (fNil)))))
    (sSeq (sAsg 12 (fTup (fCons (fCall (pureF f_lowest) (fCons (fVar 6) (fCons (fVar 11) (fNil)))) (fCons (fCall (pureF f_lowest) (fCons (fVar 7) (fCons (fVar 11) (fNil)))) (fNil)))))
    (sSeq (sLock 8 (sFor (iKeysD (fVar 8)) (tgName 13) (sSeq (sPar2 14 15 (fCons (fCall (pureF f_lowest) (fCons (fOp2 oGetX (fVar 8) (fVar 13)) (fCons (fVar 11) (fNil)))) (fCons (fCall (pureF f_walk) (fCons (fVar 1) (fCons (fOp2 oIx (fVar 0) (fCon (.int 1))) (fCons (fVar 13) (fNil))))) (fNil))))
    (sAsg 12 (fTup (fCons (fCall (pureF f_added) (fCons (fOp2 oIx (fVar 12) (fCon (.int 0))) (fCons (fCall (pureF f_times) (fCons (fVar 14) (fCons (fOp2 oIx (fVar 15) (fCon (.int 0))) (fNil)))) (fNil)))) (fCons (fCall (pureF f_added) (fCons (fOp2 oIx (fVar 12) (fCon (.int 1))) (fCons (fCall (pureF f_times) (fCons (fVar 14) (fCons (fOp2 oIx (fVar 15) (fCon (.int 1))) (fNil)))) (fNil)))) (fNil))))))))
    (sRet (fVar 12))))))))
def f_round_of : Fn := fn false 16 b_round_of
def b_parse_form : FS := sSeq (sIf (tNot (tVal (fOpN oIsa (fCons (fVar 0) (fCons (fCon (.glob (.ty "str"))) (fNil)))))) (sRaise 6) (sSkip))
    (sSeq (sAsg 1 (fOpN (oTuple) (fCons (fComp false (iSq (fMethS mSplit (fVar 0) (fCons (fCon (.str " ")) (fNil)))) (tgName 2) (tYesF) (fCall (pureF f_parsed_level) (fCons (fVar 2) (fNil))) [2]) (fNil))))
    (sSeq (sIf (Sf.tOr (tNot (tVal (fCall (pureF f_is_form) (fCons (fVar 1) (fNil))))) (tVal (fOp2 oNe (fCall (pureF f_formatted) (fCons (fVar 1) (fNil))) (fVar 0)))) (sRaise 6) (sSkip))
    (sRet (fVar 1))))
def f_parse_form : Fn := fn false 3 b_parse_form
def b_need_match : FS := sSeq (sExpr (fCall (pureF f_need_form) (fCons (fVar 0) (fNil))))
    (sExpr (fCall (pureF f_need_row) (fCons (fVar 1) (fNil))))
def f_need_match : Fn := fn false 2 b_need_match
def b_shortest : FS := sSeq (sExpr (fCall (pureF f_need_form) (fCons (fVar 0) (fNil))))
    (sSeq (sAsg 1 (fCon (.int 1)))
    (sSeq (sFor (iSq (fVar 0)) (tgName 2) (sAug 1 oMulI (fCall (pureF f_least_units) (fCons (fVar 2) (fNil)))))
    (sRet (fVar 1))))
def f_shortest : Fn := fn false 3 b_shortest
def b_longest : FS := sSeq (sExpr (fCall (pureF f_need_form) (fCons (fVar 0) (fNil))))
    (sSeq (sAsg 1 (fCon (.int 1)))
    (sSeq (sFor (iSq (fVar 0)) (tgName 2) (sSeq (sAsg 3 (fCall (pureF f_most_units) (fCons (fVar 2) (fNil))))
    (sSeq (sIf (tVal (fOp2 oIs (fVar 3) (fCon .non))) (sRet (fCon .non)) (sSkip))
    (sAug 1 oMulI (fVar 3)))))
    (sRet (fVar 1))))
def f_longest : Fn := fn false 4 b_longest
def b_surplus : FS := sSeq (sExpr (fCall (pureF f_need_form) (fCons (fVar 0) (fNil))))
    (sSeq (sAsg 1 (fCall (pureF f_surpluses) (fCons (fVar 0) (fNil))))
    (sRet (fIf (tVal (fOp2 oIs (fVar 1) (fCon .non))) (fCon .non) (fOp2 oIx (fOp2 oIx (fOp2 oIx (fVar 1) (fOp1 oNeg (fCon (.int 1)))) (fCon (.int 0))) (fCon (.int 0))))))
def f_surplus : Fn := fn false 2 b_surplus
def b_surplus_row : FS := sSeq (sExpr (fCall (pureF f_need_form) (fCons (fVar 0) (fNil))))
    (sSeq (sAsg 1 (fCall (pureF f_surpluses) (fCons (fVar 0) (fNil))))
    (sRet (fIf (tVal (fOp2 oIs (fVar 1) (fCon .non))) (fCon .non) (fCall (pureF (f_points_of 4)) (fCons (fVar 1) (fCons (fOp2 (oSub) (fOpN oLen (fCons (fVar 0) (fNil))) (fCon (.int 1))) (fCons (fCon (.int 0)) (fNil))))))))
def f_surplus_row : Fn := fn false 2 b_surplus_row
def b_Board___init__ : FS := sSeq (sExpr (fCall (pureF f_need_form) (fCons (fVar 1) (fNil))))
    (sSeq (sPutF "form" (fVar 1) (fVar 0))
    (sPutF "points" (fLst true (fNil)) (fVar 0)))
def f_Board___init__ : Fn := fnK 2 b_Board___init__
def b_Board_point : FS := sSeq (sExpr (fCall (pureF f_need_side) (fCons (fVar 1) (fNil))))
    (sSeq (sIf (tVal (fOp2 oIsN (fObjM "winner" f_Board_winner (fVar 0) fNil) (fCon .non))) (sBad) (sSkip))
    (sSeq (sExpr (fMethL mAppend (fOp1 (getF "points") (fVar 0)) (fCons (fVar 1) (fNil))))
    (sRet (fObjM "winner" f_Board_winner (fVar 0) fNil))))
def f_Board_point : Fn := fn false 2 b_Board_point
def b_Board_undo : FS := sSeq (sIf (tVal (fOp2 oEq (fOp1 (getF "points") (fVar 0)) (fLst false (fNil)))) (sRaise 5) (sSkip))
    (sSeq (sExpr (fMethL mPop (fOp1 (getF "points") (fVar 0)) fNil))
    (sRet (fObjM "score" f_Board_score (fVar 0) fNil)))
def f_Board_undo : Fn := fn false 1 b_Board_undo
def b_chance : FS := sSeq (sExpr (fCall (pureF f_need_form) (fCons (fVar 0) (fNil))))
    (sSeq (sExpr (fCall (pureF f_need_chance) (fCons (fVar 1) (fNil))))
    (sSeq (sAsg 2 (fCall (pureF f_lowest) (fCons (fOp2 oIx (fVar 1) (fCon (.int 0))) (fCons (fOp2 oIx (fVar 1) (fCon (.int 1))) (fNil)))))
    (sSeq (sFor (iSq (fVar 0)) (tgName 3) (sAsg 2 (fOp2 oIx (fCall (pureF f_round_of) (fCons (fVar 3) (fCons (fVar 2) (fNil)))) (fCon (.int 0)))))
    (sRet (fVar 2)))))
def f_chance : Fn := fn false 4 b_chance
def b_expectation : FS := sSeq (sExpr (fCall (pureF f_need_form) (fCons (fVar 0) (fNil))))
    (sSeq (sExpr (fCall (pureF f_need_chance) (fCons (fVar 1) (fNil))))
    (sSeq (sPar2 2 3 (fCons (fCall (pureF f_lowest) (fCons (fOp2 oIx (fVar 1) (fCon (.int 0))) (fCons (fOp2 oIx (fVar 1) (fCon (.int 1))) (fNil)))) (fCons (fTup (fCons (fCon (.int 1)) (fCons (fCon (.int 1)) (fNil)))) (fNil))))
    (sSeq (sFor (iSq (fVar 0)) (tgName 4) (sSeq (sAsgT [2, 5] (fCall (pureF f_round_of) (fCons (fVar 4) (fCons (fVar 2) (fNil)))))
    (sAsg 3 (fCall (pureF f_times) (fCons (fVar 3) (fCons (fVar 5) (fNil)))))))
    (sRet (fVar 3)))))
def f_expectation : Fn := fn false 6 b_expectation
def b_format_form : FS := sSeq (sExpr (fCall (pureF f_need_form) (fCons (fVar 0) (fNil))))
    (sRet (fCall (pureF f_formatted) (fCons (fVar 0) (fNil))))
def f_format_form : Fn := fn false 1 b_format_form
def b_parting : FS := sSeq (sExpr (fCall (pureF f_need_form) (fCons (fVar 0) (fNil))))
    (sSeq (sExpr (fCall (pureF f_need_form) (fCons (fVar 1) (fNil))))
    (sSeq (sAsg 2 (fTup (fCons (fCall (pureF f_start_of) (fCons (fVar 0) (fNil))) (fCons (fCall (pureF f_start_of) (fCons (fVar 1) (fNil))) (fNil)))))
    (sSeq (sPar2 3 4 (fCons (fDct1 (fVar 2) (fCon .non)) (fCons (fLst false (fCons (fVar 2) (fNil))) (fNil))))
    (sSeq (whileL (tVal (fOp2 oNe (fVar 4) (fLst false (fNil)))) (sSeq (sAsg 5 (fLst true (fNil)))
    (sSeq (sForD (fVar 4) (tgName 6) (sFor (iSq (fTup (fCons (fCon (.int 0)) (fCons (fCon (.int 1)) (fNil))))) (tgName 7) (sSeq (sPar2 8 9 (fCons (fCall (pureF f_after) (fCons (fVar 0) (fCons (fOp2 oIx (fVar 6) (fCon (.int 0))) (fCons (fVar 7) (fNil))))) (fCons (fCall (pureF f_after) (fCons (fVar 1) (fCons (fOp2 oIx (fVar 6) (fCon (.int 1))) (fCons (fVar 7) (fNil))))) (fNil))))
    (sSeq (sIf (tVal (fOp2 oNe (fOp2 oIx (fVar 8) (fCon (.int 1))) (fOp2 oIx (fVar 9) (fCon (.int 1))))) (sRet (fOp2 (oAdd false) (fCall f_row_to (fCons (fVar 3) (fCons (fVar 6) (fNil)))) (fLst false (fCons (fVar 7) (fNil))))) (sSkip))
    (sSeq (sAsg 10 (fTup (fCons (fCall (pureF f_settled) (fCons (fVar 0) (fCons (fOp2 oIx (fVar 8) (fCon (.int 0))) (fNil)))) (fCons (fCall (pureF f_settled) (fCons (fVar 1) (fCons (fOp2 oIx (fVar 9) (fCon (.int 0))) (fNil)))) (fNil)))))
    (sIf (Sf.tAnd (tVal (fOp2 oIs (fOp2 oIx (fVar 8) (fCon (.int 1))) (fCon .non))) (tVal (fOp2 oNinX (fVar 10) (fVar 3)))) (sSeq (sAsgX (fTup (fCons (fVar 6) (fCons (fVar 7) (fNil)))) (fVar 3) (fVar 10))
    (sExpr (fMethL mAppend (fVar 5) (fCons (fVar 10) (fNil))))) (sSkip)))))))
    (sAsg 4 (fVar 5)))) 100000)
    (sRet (fCon .non))))))
def f_parting : Fn := fn false 11 b_parting
def b_winner : FS := sSeq (sExpr (fCall (pureF f_need_match) (fCons (fVar 0) (fCons (fVar 1) (fNil)))))
    (sRet (fOp2 oIx (fCall (pureF f_played) (fCons (fVar 0) (fCons (fVar 1) (fNil)))) (fCon (.int 1))))
def f_winner : Fn := fn false 2 b_winner
def b_counted : FS := sSeq (sExpr (fCall (pureF f_need_match) (fCons (fVar 0) (fCons (fVar 1) (fNil)))))
    (sRet (fOp2 oIx (fCall (pureF f_played) (fCons (fVar 0) (fCons (fVar 1) (fNil)))) (fCon (.int 2))))
def f_counted : Fn := fn false 2 b_counted
def b_score : FS := sSeq (sExpr (fCall (pureF f_need_match) (fCons (fVar 0) (fCons (fVar 1) (fNil)))))
    (sRet (fOp2 oIx (fCall (pureF f_played) (fCons (fVar 0) (fCons (fVar 1) (fNil)))) (fCon (.int 0))))
def f_score : Fn := fn false 2 b_score
def b_needs : FS := sSeq (sExpr (fCall (pureF f_need_match) (fCons (fVar 0) (fCons (fVar 1) (fNil)))))
    (sSeq (sExpr (fCall (pureF f_need_side) (fCons (fVar 2) (fNil))))
    (sSeq (sAsgT [3, 4, 5] (fCall (pureF f_played) (fCons (fVar 0) (fCons (fVar 1) (fNil)))))
    (sRet (fCall (pureF f_needs_at) (fCons (fVar 0) (fCons (fVar 3) (fCons (fVar 4) (fCons (fVar 2) (fNil)))))))))
def f_needs : Fn := fn false 6 b_needs
def b_least : FS := sSeq (sExpr (fCall (pureF f_need_match) (fCons (fVar 0) (fCons (fVar 1) (fNil)))))
    (sSeq (sExpr (fCall (pureF f_need_side) (fCons (fVar 2) (fNil))))
    (sSeq (sAsgT [3, 4, 5] (fCall (pureF f_played) (fCons (fVar 0) (fCons (fVar 1) (fNil)))))
    (sSeq (sIf (tVal (fOp2 oIsN (fVar 4) (fCon .non))) (sRet (fIf (tVal (fOp2 oEq (fVar 4) (fVar 2))) (fCon (.int 0)) (fCon .non))) (sSkip))
    (sSeq (sPar3 6 7 5 (fCons (fLst false (fCons (fCall (pureF f_settled) (fCons (fVar 0) (fCons (fVar 3) (fNil)))) (fNil))) (fCons (fDct0) (fCons (fCon (.int 0)) (fNil)))))
    (sSeq (whileL (tVal (fOp2 oIs (fVar 4) (fCon .non))) (sSeq (sAug 5 oAddI (fCon (.int 1)))
    (sSeq (sAsg 8 (fLst true (fNil)))
    (sSeq (sFor (iSq (fCall f_with_losses (fCons (fVar 0) (fCons (fVar 6) (fCons (fVar 7) (fCons (fVar 2) (fNil))))))) (tgName 9) (sSeq (sAsgT [10, 11] (fCall (pureF f_after) (fCons (fVar 0) (fCons (fVar 9) (fCons (fVar 2) (fNil))))))
    (sIf (tVal (fOp2 oIs (fVar 11) (fCon .non))) (sExpr (fMethL mAppend (fVar 8) (fCons (fCall (pureF f_settled) (fCons (fVar 0) (fCons (fVar 10) (fNil)))) (fNil)))) (sAsg 4 (fVar 11)))))
    (sAsg 6 (fVar 8))))) 100000)
    (sRet (fVar 5)))))))
def f_least : Fn := fn false 12 b_least
def b_match_points : FS := sSeq (sExpr (fCall (pureF f_need_match) (fCons (fVar 0) (fCons (fVar 1) (fNil)))))
    (sSeq (sAsgT [2, 3, 4] (fCall (pureF f_played) (fCons (fVar 0) (fCons (fVar 1) (fNil)))))
    (sRet (fComp false (iSq (fTup (fCons (fCon (.int 0)) (fCons (fCon (.int 1)) (fNil))))) (tgName 5) (tVal (fOp2 oEq (fCall (pureF f_needs_at) (fCons (fVar 0) (fCons (fVar 2) (fCons (fVar 3) (fCons (fVar 5) (fNil)))))) (fCon (.int 1)))) (fVar 5) [5])))
def f_match_points : Fn := fn false 6 b_match_points
def b_Board_copy : FS := sSeq (sAsg 1 (fMake f_Board___init__ (fCons (fOp1 (getF "form") (fVar 0)) (fNil))))
    (sSeq (sPutF "points" (fOpN (oList true) (fCons (fOp1 (getF "points") (fVar 0)) (fNil))) (fVar 1))
    (sRet (fVar 1)))
def f_Board_copy : Fn := fnK 2 b_Board_copy
def b__law_refused : FS := sSeq (sTry2 5 (sRet (fOp2 oEqI (fVar 0) (fCon (.int 0)))) 6 (sRet (fOp2 oEqI (fVar 0) (fCon (.int 1)))) (sIf (tVal (fOp2 oEq (fVar 0) (fCon (.int 0)))) (sExpr (fObjM "undo" f_Board_undo (fMake f_Board___init__ (fCons (fVar 1) (fNil))) fNil)) (sExpr (fCall (pureF f_parse_form) (fCons (fCon (.str "4/2-3")) (fNil))))))
    (sRet (fCon (.bl false)))
def f__law_refused : Fn := fn false 2 b__law_refused
def b__law_boards : FS := sSeq (sAsg 2 (fMake f_Board___init__ (fCons (fVar 0) (fNil))))
    (sSeq (sAsg 3 (fObjM "copy" f_Board_copy (fVar 2) fNil))
    (sSeq (sIf (Sf.tOr (tVal (fOp2 oNe (fObjM "score" f_Board_score (fVar 2) fNil) (fTup (fCons (fTup (fCons (fCon (.int 0)) (fCons (fCon (.int 0)) (fNil)))) (fNil))))) (Sf.tOr (tVal (fOp2 oIsN (fObjM "winner" f_Board_winner (fVar 2) fNil) (fCon .non))) (tVal (fOp2 oIsN (fObjM "point" f_Board_point (fVar 3) (fCons (fVar 1) (fNil))) (fCon .non))))) (sRet (fCon (.bl false))) (sSkip))
    (sSeq (sIf (tVal (fOp2 oNe (fLenO f_Board___len__ (fVar 2)) (fCon (.int 0)))) (sRet (fCon (.bl false))) (sSkip))
    (sRet (fAnd (fOp2 oIs (fObjM "point" f_Board_point (fVar 2) (fCons (fOp2 (oSub) (fCon (.int 1)) (fVar 1)) (fNil))) (fCon .non)) (fAnd (fOp2 oEq (fLenO f_Board___len__ (fVar 2)) (fCon (.int 1))) (fOp2 oEq (fLenO f_Board___len__ (fVar 3)) (fCon (.int 1)))))))))
def f__law_boards : Fn := fn false 4 b__law_boards
def b_law : FS := sSeq (sAsg 1 (fLst true (fCons (fCon (.int 0)) (fCons (fCon (.int 0)) (fNil)))))
    (sSeq (sAsg 2 (fCall f__law_draw (fCons (fVar 0) (fCons (fVar 1) (fCons (fCon (.int 2)) (fNil))))))
    (sSeq (sPar3 3 4 5 (fCons (fOp2 (oSub) (fCon (.int 1)) (fVar 2)) (fCons (fTup (fCons (fTup (fCons (fCon (.int 4)) (fCons (fCon (.int 2)) (fCons (fCon .non) (fNil))))) (fNil))) (fCons (fTup (fCons (fTup (fCons (fCon (.int 2)) (fCons (fCon (.int 1)) (fCons (fCon .non) (fNil))))) (fCons (fTup (fCons (fCon (.int 2)) (fCons (fCon (.int 1)) (fCons (fCon .non) (fNil))))) (fNil)))) (fNil)))))
    (sSeq (sIf (Sf.tOr (tVal (fCall (pureF f_is_form) (fCons (fTup (fCons (fTup (fCons (fCon (.int 4)) (fCons (fCon (.int 2)) (fCons (fCon (.int 3)) (fNil))))) (fNil))) (fNil)))) (tVal (fOp2 oNe (fCall (pureF f_winner) (fCons (fVar 4) (fCons (fOp2 (oMul false) (fLst false (fCons (fVar 2) (fNil))) (fCon (.int 4))) (fNil)))) (fVar 2)))) (sRet (fCon (.bl false))) (sSkip))
    (sSeq (sIf (tVal (fOp2 oNe (fCall (pureF f_counted) (fCons (fVar 4) (fCons (fOp2 (oAdd false) (fOp2 (oMul false) (fLst false (fCons (fVar 3) (fNil))) (fCon (.int 4))) (fLst false (fCons (fVar 2) (fNil)))) (fNil)))) (fCon (.int 4)))) (sRet (fCon (.bl false))) (sSkip))
    (sSeq (sPar2 6 7 (fCons (fLst false (fCons (fVar 2) (fCons (fVar 2) (fCons (fVar 3) (fNil))))) (fCons (fTup (fCons (fTup (fCons (fCon (.int 3)) (fCons (fCon (.int 3)) (fCons (fCon .non) (fNil))))) (fCons (fTup (fCons (fCon (.int 2)) (fCons (fCon (.int 1)) (fCons (fCon .non) (fNil))))) (fNil)))) (fNil))))
    (sSeq (sIf (tVal (fOp2 oNe (fCall (pureF f_score) (fCons (fVar 5) (fCons (fVar 6) (fNil)))) (fTup (fCons (fCall (pureF f__law_turned) (fCons (fTup (fCons (fCon (.int 0)) (fCons (fCon (.int 1)) (fNil)))) (fCons (fVar 2) (fNil)))) (fCons (fCall (pureF f__law_turned) (fCons (fTup (fCons (fCon (.int 1)) (fCons (fCon (.int 0)) (fNil)))) (fCons (fVar 2) (fNil)))) (fNil)))))) (sRet (fCon (.bl false))) (sSkip))
    (sSeq (sIf (tVal (fOp2 oNe (fCall (pureF f_needs) (fCons (fVar 5) (fCons (fVar 6) (fCons (fVar 3) (fNil))))) (fCon (.int 3)))) (sRet (fCon (.bl false))) (sSkip))
    (sSeq (sIf (Sf.tOr (tVal (fOp2 oNe (fCall (pureF f_needs) (fCons (fVar 7) (fCons (fLst false (fCons (fVar 3) (fCons (fVar 3) (fNil)))) (fCons (fVar 2) (fNil))))) (fCon (.int 8)))) (tVal (fOp2 oNe (fCall (pureF f_least) (fCons (fVar 7) (fCons (fLst false (fCons (fVar 3) (fCons (fVar 3) (fNil)))) (fCons (fVar 2) (fNil))))) (fCon (.int 6))))) (sRet (fCon (.bl false))) (sSkip))
    (sSeq (sIf (tVal (fOp2 oNe (fCall (pureF f_match_points) (fCons (fTup (fCons (fTup (fCons (fCon (.int 2)) (fCons (fCon (.int 1)) (fCons (fCon .non) (fNil))))) (fNil))) (fCons (fLst false (fCons (fVar 2) (fCons (fVar 3) (fNil)))) (fNil)))) (fLst false (fCons (fCon (.int 0)) (fCons (fCon (.int 1)) (fNil)))))) (sRet (fCon (.bl false))) (sSkip))
    (sSeq (sIf (Sf.tOr (tVal (fOp2 oNe (fCall (pureF f_shortest) (fCons (fVar 5) (fNil))) (fCon (.int 4)))) (Sf.tOr (tVal (fOp2 oNe (fCall (pureF f_longest) (fCons (fVar 5) (fNil))) (fCon (.int 9)))) (Sf.tOr (tVal (fOp2 oIsN (fCall (pureF f_longest) (fCons (fVar 4) (fNil))) (fCon .non))) (tVal (fOp2 oNe (fCall (pureF f_surplus) (fCons (fVar 5) (fNil))) (fCon (.int 0))))))) (sRet (fCon (.bl false))) (sSkip))
    (sSeq (sIf (tVal (fOp2 oNe (fCall (pureF f_surplus) (fCons (fVar 4) (fNil))) (fOp1 oNeg (fCon (.int 2))))) (sRet (fCon (.bl false))) (sSkip))
    (sSeq (sIf (Sf.tOr (tVal (fOp2 oNe (fOpN oLen (fCons (fCall (pureF f_surplus_row) (fCons (fVar 5) (fNil))) (fNil))) (fCon (.int 8)))) (tVal (fOp2 oNe (fCall (pureF f_winner) (fCons (fVar 5) (fCons (fCall (pureF f_surplus_row) (fCons (fVar 5) (fNil))) (fNil)))) (fCon (.int 0))))) (sRet (fCon (.bl false))) (sSkip))
    (sSeq (sIf (Sf.tOr (tVal (fOp2 oNe (fCall (pureF f_chance) (fCons (fVar 5) (fCons (fTup (fCons (fCon (.int 1)) (fCons (fCon (.int 2)) (fNil)))) (fNil)))) (fTup (fCons (fCon (.int 1)) (fCons (fCon (.int 2)) (fNil)))))) (tVal (fOp2 oNe (fCall (pureF f_chance) (fCons (fTup (fCons (fTup (fCons (fCon (.int 1)) (fCons (fCon (.int 2)) (fCons (fCon .non) (fNil))))) (fNil))) (fCons (fTup (fCons (fCon (.int 2)) (fCons (fCon (.int 3)) (fNil)))) (fNil)))) (fTup (fCons (fCon (.int 4)) (fCons (fCon (.int 5)) (fNil))))))) (sRet (fCon (.bl false))) (sSkip))
    (sSeq (sIf (tVal (fOp2 oNe (fCall (pureF f_expectation) (fCons (fTup (fCons (fTup (fCons (fCon (.int 2)) (fCons (fCon (.int 1)) (fCons (fCon .non) (fNil))))) (fNil))) (fCons (fTup (fCons (fCon (.int 1)) (fCons (fCon (.int 2)) (fNil)))) (fNil)))) (fTup (fCons (fCon (.int 5)) (fCons (fCon (.int 2)) (fNil)))))) (sRet (fCon (.bl false))) (sSkip))
    (sSeq (sIf (tVal (fOp2 oIsN (fCall (pureF f_parting) (fCons (fTup (fCons (fTup (fCons (fCon (.int 2)) (fCons (fCon (.int 1)) (fCons (fCon .non) (fNil))))) (fNil))) (fCons (fTup (fCons (fTup (fCons (fCon (.int 2)) (fCons (fCon (.int 2)) (fCons (fCon (.int 2)) (fNil))))) (fNil))) (fNil)))) (fCon .non))) (sRet (fCon (.bl false))) (sSkip))
    (sSeq (sAsg 8 (fCon (.str "4/2 5/2-6")))
    (sSeq (sIf (Sf.tOr (tVal (fOp2 oNe (fCall (pureF f_format_form) (fCons (fTup (fCons (fTup (fCons (fCon (.int 4)) (fCons (fCon (.int 2)) (fCons (fCon .non) (fNil))))) (fCons (fTup (fCons (fCon (.int 5)) (fCons (fCon (.int 2)) (fCons (fCon (.int 6)) (fNil))))) (fNil)))) (fNil))) (fVar 8))) (tVal (fOp2 oNe (fCall (pureF f_parse_form) (fCons (fVar 8) (fNil))) (fTup (fCons (fTup (fCons (fCon (.int 4)) (fCons (fCon (.int 2)) (fCons (fCon .non) (fNil))))) (fCons (fTup (fCons (fCon (.int 5)) (fCons (fCon (.int 2)) (fCons (fCon (.int 6)) (fNil))))) (fNil))))))) (sRet (fCon (.bl false))) (sSkip))
    (sRet (fAnd (fCall (pureF f__law_boards) (fCons (fVar 4) (fCons (fVar 2) (fNil)))) (fAnd (fCall (pureF f__law_refused) (fCons (fCon (.int 0)) (fCons (fVar 4) (fNil)))) (fCall (pureF f__law_refused) (fCons (fCon (.int 1)) (fCons (fVar 4) (fNil))))))))))))))))))))))))
def f_law : Fn := fn false 9 b_law
end Sf
end

section
set_option Elab.async false
set_option maxRecDepth 100000
set_option linter.all false
set_option maxHeartbeats 4000000
namespace Sf
open PySem L2
/-! the draws -/
def tw (p q : Int) (R : Sto) : Sto := .lst [.int p, .int q] :: R
theorem nat_blt {a b : Nat} (h : a < b) : Nat.blt a b = true := Nat.ble_eq_true_of_le h
theorem t_draw {ns : List Int} {n p q : Int} {R : Sto} (h1 : 1 ≤ n) (h2 : n < 100000) (hp : 0 ≤ p) (hq : 0 ≤ q) :
    ∃ r p' q', 0 ≤ r ∧ r < n ∧ 0 ≤ p' ∧ 0 ≤ q' ∧ f__law_draw [.scr (ns.map D.int), .loc 0, .int n] (tw p q R) = .ok (.int r) (tw p' q' R) := by
  have n0 : 0 < n := by omega
  have hm : ∀ i : Int, 0 ≤ i % n ∧ i % n < n := fun i => ⟨Int.emod_nonneg _ (by omega), Int.emod_lt_of_pos _ n0⟩
  unfold tw f__law_draw fn b__law_draw
  by_cases c1 : 0 < q
  · refine ⟨q % n, p, q / n, (hm _).1, (hm _).2, hp, Int.ediv_nonneg hq (by omega), ?_⟩
    simp [c1, mod_ok n0, fdiv_ok n0 (show n < 1000000 by omega), end_rt]
  · have p1 : 0 ≤ p + 1 := by omega
    cases ns with
    | nil =>
      refine ⟨p % n, p + 1, q, (hm _).1, (hm _).2, p1, hq, ?_⟩
      have e := eqScr0 (l := []) (S := [.lst [.int (p + 1), .int q]] ++ R)
      simp at e
      simp [c1, e, mod_ok n0, end_rt]
    | cons a as =>
      have e := eqScr0 (l := a :: as) (S := [.lst [.int (p + 1), .int q]] ++ R)
      simp at e
      have L0 : 0 < (((a :: as).length : Nat) : Int) := by simp
      have i2 := ix_int (l := a :: as) (i := p % ((a :: as).length : Nat)) (Int.emod_nonneg _ (by omega)) (Int.emod_lt_of_pos _ L0)
      obtain ⟨k2, _, i2⟩ := i2
      have hw : Nat.blt (((k2 * 1103515245 + 7919 * p + 12345) % 2147483647).natAbs) 18446744073709551616 = true := nat_blt (by omega)
      have m5 : ∀ S, oPow (.int ((k2 * 1103515245 + 7919 * p + 12345) % 2147483647)) (.int 5) S = some (.int (((k2 * 1103515245 + 7919 * p + 12345) % 2147483647) ^ 5), S) := fun _ => by
        unfold oPow
        simp only
        rw [hw]
        rfl
      have q18 : ∀ S, oPow (.int 10) (.int 18) S = some (.int 1000000000000000000, S) := fun _ => rfl
      have q60 : ∀ S, oPow (.int 10) (.int 60) S = some (.int 1000000000000000000000000000000000000000000000000000000000000, S) := fun _ => rfl
      have m60 : ∀ S, oMul false (.int 1000000000000000000000000000000000000000000000000000000000000) (.int 1000000000000000000000000000000000000000000000000000000000000) S = some (.int 1000000000000000000000000000000000000000000000000000000000000000000000000000000000000000000000000000000000000000000000000, S) := fun _ => rfl
      have mq : ∀ i S, oMod (.int i) (.int 1000000000000000000000000000000000000000000000000000000000000000000000000000000000000000000000000000000000000000000000000) S = some (.int (i % 1000000000000000000000000000000000000000000000000000000000000000000000000000000000000000000000000000000000000000000000000), S) := fun _ _ => mod_ok (by decide)
      have mA : ∀ i S, oMod (.int i) (.int 2147483647) S = some (.int (i % 2147483647), S) := fun _ _ => mod_ok (by decide)
      have mB : ∀ i S, oMod (.int i) (.int 999983) S = some (.int (i % 999983), S) := fun _ _ => mod_ok (by decide)
      have mC : ∀ S, oMod (.int p) (.int ((as.length : Int) + 1)) S = some (.int (p % ((as.length : Int) + 1)), S) := fun _ => mod_ok (by omega)
      have mD : ∀ i S, oMul false (.int i) (.int 1103515245) S = some (.int (i * 1103515245), S) := fun _ _ => mul_r rfl
      have mE : ∀ i S, oMul false (.int 7919) (.int i) S = some (.int (7919 * i), S) := fun _ _ => mul_l rfl
      simp only [List.map_cons, List.length_cons, Int.natCast_add, Int.cast_ofNat_Int] at e L0 i2
      by_cases c2 : p < ((a :: as).length : Nat)
      · obtain ⟨k1, _, i1⟩ := ix_int (l := a :: as) (i := p) hp c2
        simp only [List.map_cons, List.length_cons, Int.natCast_add, Int.cast_ofNat_Int] at i1 c2
        by_cases c3 : 1000000000000000000 ≤ k1
        · refine ⟨k1 % n, p + 1, k1 / n % 1000000000000000000000000000000000000000000000000000000000000000000000000000000000000000000000000000000000000000000000000, (hm _).1, (hm _).2, p1, Int.emod_nonneg _ (by decide), ?_⟩
          simp [c1, e, c2, i1, q18, c3, fdiv_ok n0 (show n < 1000000 by omega), q60, m60, mq, mod_ok n0, end_rt]
        · refine ⟨((k2 * 1103515245 + 7919 * p + 12345) % 2147483647) ^ 5 % 2147483647 % 999983 % n, p + 1, q, (hm _).1, (hm _).2, p1, hq, ?_⟩
          simp [c1, e, c2, i1, q18, c3, mA, mB, mC, mD, mE, i2, m5, mod_ok n0, end_rt]
      · refine ⟨((k2 * 1103515245 + 7919 * p + 12345) % 2147483647) ^ 5 % 2147483647 % 999983 % n, p + 1, q, (hm _).1, (hm _).2, p1, hq, ?_⟩
        simp only [List.map_cons, List.length_cons, Int.natCast_add, Int.cast_ofNat_Int] at c2
        simp [c1, e, c2, q18, mA, mB, mC, mD, mE, i2, m5, mod_ok n0, end_rt]

end Sf
end

section
set_option Elab.async false
set_option maxRecDepth 100000
set_option linter.all false
set_option maxHeartbeats 4000000
namespace Sf
open PySem L2
/-! forms -/
structure Lv where
  t : Int
  l : Int
  c : Option Int
def oI : Option Int → D
  | some i => .int i
  | none => .non
@[simp] theorem oI_none : oI none = .non := rfl
@[simp] theorem oI_some {i : Int} : oI (some i) = .int i := rfl
def Lv.D (v : Lv) : Sf.D := .tup [.int v.t, .int v.l, oI v.c]
def Lv.Ok (v : Lv) : Prop := 1 ≤ v.t ∧ v.t ≤ 5 ∧ 1 ≤ v.l ∧ v.l ≤ 3 ∧ ∀ c, v.c = some c → v.t ≤ c ∧ c ≤ 9
def Lv.In (m : Int) (v : Lv) : Prop := 1 ≤ v.t ∧ v.t ≤ m ∧ 1 ≤ v.l ∧ v.l ≤ 3 ∧ (v.c = none ∨ v.c = some v.t ∨ v.c = some (v.t + 1) ∨ v.c = some (v.t + 3))
theorem Lv.In.ok {m : Int} {v : Lv} (h : v.In m) (hm : m ≤ 5) : v.Ok := by
  obtain ⟨h1, h2, h3, h4, h5⟩ := h
  refine ⟨h1, by omega, h3, h4, fun c e => ?_⟩
  rw [e] at h5
  simp at h5
  omega
@[simp] theorem tw_len {p q : Int} {R : Sto} : (tw p q R).length = R.length + 1 := by unfold tw; simp

end Sf
end

section
set_option Elab.async false
set_option maxRecDepth 100000
set_option linter.all false
set_option maxHeartbeats 4000000
namespace Sf
open PySem L2
/-! small steps -/
theorem orFF {t t' : FT} {env : En} {S S1 S2 : Sto} (h : t env S = .ok false S1) (h' : t' env S1 = .ok false S2) : Sf.tOr t t' env S = .ok false S2 := by rw [x_or, h, x_bind, cond_false, h']
theorem andFF {t t' : FT} {env : En} {S S1 : Sto} (h : t env S = .ok false S1) : Sf.tAnd t t' env S = .ok false S1 := by rw [x_and, h, x_bind, cond_false]
theorem andTT {t t' : FT} {b : Bool} {env : En} {S S1 S2 : Sto} (h : t env S = .ok true S1) (h' : t' env S1 = .ok b S2) : Sf.tAnd t t' env S = .ok b S2 := by rw [x_and, h, x_bind, cond_true, h']
theorem valF {a : FE} {b : Bool} {env : En} {S S1 : Sto} (h : a env S = .ok (.bl b) S1) : tVal a env S = .ok b S1 := by rw [x_val, h, x_bind]
theorem op2F {o : Op2} {a b : FE} {env : En} {S S1 S2 S3 : Sto} {x y z : D} (ha : a env S = .ok x S1) (hb : b env S1 = .ok y S2) (ho : o x y S2 = some (z, S3)) : fOp2 o a b env S = .ok z S3 := by rw [x_op2, ha, x_bind, hb, x_bind, ho, x_outO]
theorem callF {F : Fn} {fs : FA} {env : En} {S S1 S2 : Sto} {ds : List D} {d : D} (h : fs env S = .ok ds S1) (hF : F ds S1 = .ok d S2) : fCall F fs env S = .ok d S2 := by rw [x_call, h, x_bind, hF]
theorem consF {a : FE} {fs : FA} {env : En} {S S1 S2 : Sto} {x : D} {xs : List D} (h : a env S = .ok x S1) (h' : fs env S1 = .ok xs S2) : fCons a fs env S = .ok (x :: xs) S2 := by rw [x_cons, h, x_bind, h', x_bind]
theorem fandT {a b : FE} {env : En} {S S1 S2 : Sto} {d : D} (h : a env S = .ok (.bl true) S1) (h' : b env S1 = .ok d S2) : fAnd a b env S = .ok d S2 := by rw [x_fand, h, x_bind]; exact h'
theorem sIf_no {t : FT} {f g : FS} {env : En} {S S' : Sto} (h : t env S = .ok false S') : sIf t f g env S = g env S' := by rw [x_sif, h]; rfl
theorem sIf_yes {t : FT} {f g : FS} {env : En} {S S' : Sto} (h : t env S = .ok true S') : sIf t f g env S = f env S' := by rw [x_sif, h]; rfl
theorem asgF {i : Nat} {a : FE} {env : En} {S S1 : Sto} {x : D} (h : a env S = .ok x S1) : sAsg i a env S = .nx (env.set i x) S1 := by rw [x_asg, h]; rfl
theorem ifT {t : FT} {a b : FE} {env : En} {S S1 : Sto} (h : t env S = .ok true S1) : fIf t a b env S = a env S1 := by rw [x_if, h]; rfl
theorem ifF {t : FT} {a b : FE} {env : En} {S S1 : Sto} (h : t env S = .ok false S1) : fIf t a b env S = b env S1 := by rw [x_if, h]; rfl
theorem oIne {w : Option Int} {S : Sto} (hw : ∀ k, w = some k → k = 0 ∨ k = 1) : oNe (oI w) (oI w) S = some (.bl false, S) := by
  cases w with
  | none => rfl
  | some k => rcases hw k rfl with rfl | rfl <;> rfl
theorem intNe {k : Int} {S : Sto} : oNe (.int k) (.int k) S = some (.bl false, S) := by rw [x_neI, decide_eq_true rfl]; rfl
theorem opNF0 {o : OpN} {fs : FA} {env : En} {S S1 S2 : Sto} {ds : List D} {d : D} (h : fs env S = .ok ds S1) (ho : o ds S1 = some (d, S2)) : fOpN o fs env S = .ok d S2 := by rw [x_opN, h, x_bind, ho, x_outO]

end Sf
end

section
set_option Elab.async false
set_option maxRecDepth 100000
set_option linter.all false
set_option maxHeartbeats 4000000
namespace Sf
open PySem L2
/-! k19: the law's body, statement by statement, for both sides -/
theorem k19_0_2 {x0 : D} {S : Sto} : (sPar3 3 4 5 (fCons (fOp2 (oSub) (fCon (.int 1)) (fVar 2)) (fCons (fTup (fCons (fTup (fCons (fCon (.int 4)) (fCons (fCon (.int 2)) (fCons (fCon .non) (fNil))))) (fNil))) (fCons (fTup (fCons (fTup (fCons (fCon (.int 2)) (fCons (fCon (.int 1)) (fCons (fCon .non) (fNil))))) (fCons (fTup (fCons (fCon (.int 2)) (fCons (fCon (.int 1)) (fCons (fCon .non) (fNil))))) (fNil)))) (fNil))))) [x0, .loc 0, .int 0, .und, .und, .und, .und, .und, .und] S = .nx [x0, .loc 0, .int 0, .int 1, (.tup [.tup [.int 4, .int 2, .non]]), (.tup [.tup [.int 2, .int 1, .non], .tup [.int 2, .int 1, .non]]), .und, .und, .und] S := by kernel_rfl
theorem k19_0_3 {x0 : D} {S : Sto} : (sIf (Sf.tOr (tVal (fCall (pureF f_is_form) (fCons (fTup (fCons (fTup (fCons (fCon (.int 4)) (fCons (fCon (.int 2)) (fCons (fCon (.int 3)) (fNil))))) (fNil))) (fNil)))) (tVal (fOp2 oNe (fCall (pureF f_winner) (fCons (fVar 4) (fCons (fOp2 (oMul false) (fLst false (fCons (fVar 2) (fNil))) (fCon (.int 4))) (fNil)))) (fVar 2)))) (sRet (fCon (.bl false))) (sSkip)) [x0, .loc 0, .int 0, .int 1, (.tup [.tup [.int 4, .int 2, .non]]), (.tup [.tup [.int 2, .int 1, .non], .tup [.int 2, .int 1, .non]]), .und, .und, .und] S = .nx [x0, .loc 0, .int 0, .int 1, (.tup [.tup [.int 4, .int 2, .non]]), (.tup [.tup [.int 2, .int 1, .non], .tup [.int 2, .int 1, .non]]), .und, .und, .und] S := by kernel_rfl
theorem k19_0_4 {x0 : D} {S : Sto} : (sIf (tVal (fOp2 oNe (fCall (pureF f_counted) (fCons (fVar 4) (fCons (fOp2 (oAdd false) (fOp2 (oMul false) (fLst false (fCons (fVar 3) (fNil))) (fCon (.int 4))) (fLst false (fCons (fVar 2) (fNil)))) (fNil)))) (fCon (.int 4)))) (sRet (fCon (.bl false))) (sSkip)) [x0, .loc 0, .int 0, .int 1, (.tup [.tup [.int 4, .int 2, .non]]), (.tup [.tup [.int 2, .int 1, .non], .tup [.int 2, .int 1, .non]]), .und, .und, .und] S = .nx [x0, .loc 0, .int 0, .int 1, (.tup [.tup [.int 4, .int 2, .non]]), (.tup [.tup [.int 2, .int 1, .non], .tup [.int 2, .int 1, .non]]), .und, .und, .und] S := by kernel_rfl
theorem k19_0_5 {x0 : D} {S : Sto} : (sPar2 6 7 (fCons (fLst false (fCons (fVar 2) (fCons (fVar 2) (fCons (fVar 3) (fNil))))) (fCons (fTup (fCons (fTup (fCons (fCon (.int 3)) (fCons (fCon (.int 3)) (fCons (fCon .non) (fNil))))) (fCons (fTup (fCons (fCon (.int 2)) (fCons (fCon (.int 1)) (fCons (fCon .non) (fNil))))) (fNil)))) (fNil)))) [x0, .loc 0, .int 0, .int 1, (.tup [.tup [.int 4, .int 2, .non]]), (.tup [.tup [.int 2, .int 1, .non], .tup [.int 2, .int 1, .non]]), .und, .und, .und] S = .nx [x0, .loc 0, .int 0, .int 1, (.tup [.tup [.int 4, .int 2, .non]]), (.tup [.tup [.int 2, .int 1, .non], .tup [.int 2, .int 1, .non]]), (.lst [.int 0, .int 0, .int 1]), (.tup [.tup [.int 3, .int 3, .non], .tup [.int 2, .int 1, .non]]), .und] S := by kernel_rfl
theorem k19_0_6 {x0 : D} {S : Sto} : (sIf (tVal (fOp2 oNe (fCall (pureF f_score) (fCons (fVar 5) (fCons (fVar 6) (fNil)))) (fTup (fCons (fCall (pureF f__law_turned) (fCons (fTup (fCons (fCon (.int 0)) (fCons (fCon (.int 1)) (fNil)))) (fCons (fVar 2) (fNil)))) (fCons (fCall (pureF f__law_turned) (fCons (fTup (fCons (fCon (.int 1)) (fCons (fCon (.int 0)) (fNil)))) (fCons (fVar 2) (fNil)))) (fNil)))))) (sRet (fCon (.bl false))) (sSkip)) [x0, .loc 0, .int 0, .int 1, (.tup [.tup [.int 4, .int 2, .non]]), (.tup [.tup [.int 2, .int 1, .non], .tup [.int 2, .int 1, .non]]), (.lst [.int 0, .int 0, .int 1]), (.tup [.tup [.int 3, .int 3, .non], .tup [.int 2, .int 1, .non]]), .und] S = .nx [x0, .loc 0, .int 0, .int 1, (.tup [.tup [.int 4, .int 2, .non]]), (.tup [.tup [.int 2, .int 1, .non], .tup [.int 2, .int 1, .non]]), (.lst [.int 0, .int 0, .int 1]), (.tup [.tup [.int 3, .int 3, .non], .tup [.int 2, .int 1, .non]]), .und] S := by kernel_rfl
theorem k19_0_7 {x0 : D} {S : Sto} : (sIf (tVal (fOp2 oNe (fCall (pureF f_needs) (fCons (fVar 5) (fCons (fVar 6) (fCons (fVar 3) (fNil))))) (fCon (.int 3)))) (sRet (fCon (.bl false))) (sSkip)) [x0, .loc 0, .int 0, .int 1, (.tup [.tup [.int 4, .int 2, .non]]), (.tup [.tup [.int 2, .int 1, .non], .tup [.int 2, .int 1, .non]]), (.lst [.int 0, .int 0, .int 1]), (.tup [.tup [.int 3, .int 3, .non], .tup [.int 2, .int 1, .non]]), .und] S = .nx [x0, .loc 0, .int 0, .int 1, (.tup [.tup [.int 4, .int 2, .non]]), (.tup [.tup [.int 2, .int 1, .non], .tup [.int 2, .int 1, .non]]), (.lst [.int 0, .int 0, .int 1]), (.tup [.tup [.int 3, .int 3, .non], .tup [.int 2, .int 1, .non]]), .und] S := by kernel_rfl
theorem k19_0_8 {x0 : D} {S : Sto} : (sIf (Sf.tOr (tVal (fOp2 oNe (fCall (pureF f_needs) (fCons (fVar 7) (fCons (fLst false (fCons (fVar 3) (fCons (fVar 3) (fNil)))) (fCons (fVar 2) (fNil))))) (fCon (.int 8)))) (tVal (fOp2 oNe (fCall (pureF f_least) (fCons (fVar 7) (fCons (fLst false (fCons (fVar 3) (fCons (fVar 3) (fNil)))) (fCons (fVar 2) (fNil))))) (fCon (.int 6))))) (sRet (fCon (.bl false))) (sSkip)) [x0, .loc 0, .int 0, .int 1, (.tup [.tup [.int 4, .int 2, .non]]), (.tup [.tup [.int 2, .int 1, .non], .tup [.int 2, .int 1, .non]]), (.lst [.int 0, .int 0, .int 1]), (.tup [.tup [.int 3, .int 3, .non], .tup [.int 2, .int 1, .non]]), .und] S = .nx [x0, .loc 0, .int 0, .int 1, (.tup [.tup [.int 4, .int 2, .non]]), (.tup [.tup [.int 2, .int 1, .non], .tup [.int 2, .int 1, .non]]), (.lst [.int 0, .int 0, .int 1]), (.tup [.tup [.int 3, .int 3, .non], .tup [.int 2, .int 1, .non]]), .und] S := by kernel_rfl
theorem k19_0_9 {x0 : D} {S : Sto} : (sIf (tVal (fOp2 oNe (fCall (pureF f_match_points) (fCons (fTup (fCons (fTup (fCons (fCon (.int 2)) (fCons (fCon (.int 1)) (fCons (fCon .non) (fNil))))) (fNil))) (fCons (fLst false (fCons (fVar 2) (fCons (fVar 3) (fNil)))) (fNil)))) (fLst false (fCons (fCon (.int 0)) (fCons (fCon (.int 1)) (fNil)))))) (sRet (fCon (.bl false))) (sSkip)) [x0, .loc 0, .int 0, .int 1, (.tup [.tup [.int 4, .int 2, .non]]), (.tup [.tup [.int 2, .int 1, .non], .tup [.int 2, .int 1, .non]]), (.lst [.int 0, .int 0, .int 1]), (.tup [.tup [.int 3, .int 3, .non], .tup [.int 2, .int 1, .non]]), .und] S = .nx [x0, .loc 0, .int 0, .int 1, (.tup [.tup [.int 4, .int 2, .non]]), (.tup [.tup [.int 2, .int 1, .non], .tup [.int 2, .int 1, .non]]), (.lst [.int 0, .int 0, .int 1]), (.tup [.tup [.int 3, .int 3, .non], .tup [.int 2, .int 1, .non]]), .und] S := by kernel_rfl
theorem k19_0_10 {x0 : D} {S : Sto} : (sIf (Sf.tOr (tVal (fOp2 oNe (fCall (pureF f_shortest) (fCons (fVar 5) (fNil))) (fCon (.int 4)))) (Sf.tOr (tVal (fOp2 oNe (fCall (pureF f_longest) (fCons (fVar 5) (fNil))) (fCon (.int 9)))) (Sf.tOr (tVal (fOp2 oIsN (fCall (pureF f_longest) (fCons (fVar 4) (fNil))) (fCon .non))) (tVal (fOp2 oNe (fCall (pureF f_surplus) (fCons (fVar 5) (fNil))) (fCon (.int 0))))))) (sRet (fCon (.bl false))) (sSkip)) [x0, .loc 0, .int 0, .int 1, (.tup [.tup [.int 4, .int 2, .non]]), (.tup [.tup [.int 2, .int 1, .non], .tup [.int 2, .int 1, .non]]), (.lst [.int 0, .int 0, .int 1]), (.tup [.tup [.int 3, .int 3, .non], .tup [.int 2, .int 1, .non]]), .und] S = .nx [x0, .loc 0, .int 0, .int 1, (.tup [.tup [.int 4, .int 2, .non]]), (.tup [.tup [.int 2, .int 1, .non], .tup [.int 2, .int 1, .non]]), (.lst [.int 0, .int 0, .int 1]), (.tup [.tup [.int 3, .int 3, .non], .tup [.int 2, .int 1, .non]]), .und] S := by kernel_rfl
theorem k19_0_11 {x0 : D} {S : Sto} : (sIf (tVal (fOp2 oNe (fCall (pureF f_surplus) (fCons (fVar 4) (fNil))) (fOp1 oNeg (fCon (.int 2))))) (sRet (fCon (.bl false))) (sSkip)) [x0, .loc 0, .int 0, .int 1, (.tup [.tup [.int 4, .int 2, .non]]), (.tup [.tup [.int 2, .int 1, .non], .tup [.int 2, .int 1, .non]]), (.lst [.int 0, .int 0, .int 1]), (.tup [.tup [.int 3, .int 3, .non], .tup [.int 2, .int 1, .non]]), .und] S = .nx [x0, .loc 0, .int 0, .int 1, (.tup [.tup [.int 4, .int 2, .non]]), (.tup [.tup [.int 2, .int 1, .non], .tup [.int 2, .int 1, .non]]), (.lst [.int 0, .int 0, .int 1]), (.tup [.tup [.int 3, .int 3, .non], .tup [.int 2, .int 1, .non]]), .und] S := by kernel_rfl
theorem k19_0_12 {x0 : D} {S : Sto} : (sIf (Sf.tOr (tVal (fOp2 oNe (fOpN oLen (fCons (fCall (pureF f_surplus_row) (fCons (fVar 5) (fNil))) (fNil))) (fCon (.int 8)))) (tVal (fOp2 oNe (fCall (pureF f_winner) (fCons (fVar 5) (fCons (fCall (pureF f_surplus_row) (fCons (fVar 5) (fNil))) (fNil)))) (fCon (.int 0))))) (sRet (fCon (.bl false))) (sSkip)) [x0, .loc 0, .int 0, .int 1, (.tup [.tup [.int 4, .int 2, .non]]), (.tup [.tup [.int 2, .int 1, .non], .tup [.int 2, .int 1, .non]]), (.lst [.int 0, .int 0, .int 1]), (.tup [.tup [.int 3, .int 3, .non], .tup [.int 2, .int 1, .non]]), .und] S = .nx [x0, .loc 0, .int 0, .int 1, (.tup [.tup [.int 4, .int 2, .non]]), (.tup [.tup [.int 2, .int 1, .non], .tup [.int 2, .int 1, .non]]), (.lst [.int 0, .int 0, .int 1]), (.tup [.tup [.int 3, .int 3, .non], .tup [.int 2, .int 1, .non]]), .und] S := by kernel_rfl
theorem k19_0_13 {x0 : D} {S : Sto} : (sIf (Sf.tOr (tVal (fOp2 oNe (fCall (pureF f_chance) (fCons (fVar 5) (fCons (fTup (fCons (fCon (.int 1)) (fCons (fCon (.int 2)) (fNil)))) (fNil)))) (fTup (fCons (fCon (.int 1)) (fCons (fCon (.int 2)) (fNil)))))) (tVal (fOp2 oNe (fCall (pureF f_chance) (fCons (fTup (fCons (fTup (fCons (fCon (.int 1)) (fCons (fCon (.int 2)) (fCons (fCon .non) (fNil))))) (fNil))) (fCons (fTup (fCons (fCon (.int 2)) (fCons (fCon (.int 3)) (fNil)))) (fNil)))) (fTup (fCons (fCon (.int 4)) (fCons (fCon (.int 5)) (fNil))))))) (sRet (fCon (.bl false))) (sSkip)) [x0, .loc 0, .int 0, .int 1, (.tup [.tup [.int 4, .int 2, .non]]), (.tup [.tup [.int 2, .int 1, .non], .tup [.int 2, .int 1, .non]]), (.lst [.int 0, .int 0, .int 1]), (.tup [.tup [.int 3, .int 3, .non], .tup [.int 2, .int 1, .non]]), .und] S = .nx [x0, .loc 0, .int 0, .int 1, (.tup [.tup [.int 4, .int 2, .non]]), (.tup [.tup [.int 2, .int 1, .non], .tup [.int 2, .int 1, .non]]), (.lst [.int 0, .int 0, .int 1]), (.tup [.tup [.int 3, .int 3, .non], .tup [.int 2, .int 1, .non]]), .und] S := by kernel_rfl
theorem k19_0_14 {x0 : D} {S : Sto} : (sIf (tVal (fOp2 oNe (fCall (pureF f_expectation) (fCons (fTup (fCons (fTup (fCons (fCon (.int 2)) (fCons (fCon (.int 1)) (fCons (fCon .non) (fNil))))) (fNil))) (fCons (fTup (fCons (fCon (.int 1)) (fCons (fCon (.int 2)) (fNil)))) (fNil)))) (fTup (fCons (fCon (.int 5)) (fCons (fCon (.int 2)) (fNil)))))) (sRet (fCon (.bl false))) (sSkip)) [x0, .loc 0, .int 0, .int 1, (.tup [.tup [.int 4, .int 2, .non]]), (.tup [.tup [.int 2, .int 1, .non], .tup [.int 2, .int 1, .non]]), (.lst [.int 0, .int 0, .int 1]), (.tup [.tup [.int 3, .int 3, .non], .tup [.int 2, .int 1, .non]]), .und] S = .nx [x0, .loc 0, .int 0, .int 1, (.tup [.tup [.int 4, .int 2, .non]]), (.tup [.tup [.int 2, .int 1, .non], .tup [.int 2, .int 1, .non]]), (.lst [.int 0, .int 0, .int 1]), (.tup [.tup [.int 3, .int 3, .non], .tup [.int 2, .int 1, .non]]), .und] S := by kernel_rfl
theorem k19_0_15 {x0 : D} {S : Sto} : (sIf (tVal (fOp2 oIsN (fCall (pureF f_parting) (fCons (fTup (fCons (fTup (fCons (fCon (.int 2)) (fCons (fCon (.int 1)) (fCons (fCon .non) (fNil))))) (fNil))) (fCons (fTup (fCons (fTup (fCons (fCon (.int 2)) (fCons (fCon (.int 2)) (fCons (fCon (.int 2)) (fNil))))) (fNil))) (fNil)))) (fCon .non))) (sRet (fCon (.bl false))) (sSkip)) [x0, .loc 0, .int 0, .int 1, (.tup [.tup [.int 4, .int 2, .non]]), (.tup [.tup [.int 2, .int 1, .non], .tup [.int 2, .int 1, .non]]), (.lst [.int 0, .int 0, .int 1]), (.tup [.tup [.int 3, .int 3, .non], .tup [.int 2, .int 1, .non]]), .und] S = .nx [x0, .loc 0, .int 0, .int 1, (.tup [.tup [.int 4, .int 2, .non]]), (.tup [.tup [.int 2, .int 1, .non], .tup [.int 2, .int 1, .non]]), (.lst [.int 0, .int 0, .int 1]), (.tup [.tup [.int 3, .int 3, .non], .tup [.int 2, .int 1, .non]]), .und] S := by kernel_rfl
theorem k19_0_16 {x0 : D} {S : Sto} : (sAsg 8 (fCon (.str "4/2 5/2-6"))) [x0, .loc 0, .int 0, .int 1, (.tup [.tup [.int 4, .int 2, .non]]), (.tup [.tup [.int 2, .int 1, .non], .tup [.int 2, .int 1, .non]]), (.lst [.int 0, .int 0, .int 1]), (.tup [.tup [.int 3, .int 3, .non], .tup [.int 2, .int 1, .non]]), .und] S = .nx [x0, .loc 0, .int 0, .int 1, (.tup [.tup [.int 4, .int 2, .non]]), (.tup [.tup [.int 2, .int 1, .non], .tup [.int 2, .int 1, .non]]), (.lst [.int 0, .int 0, .int 1]), (.tup [.tup [.int 3, .int 3, .non], .tup [.int 2, .int 1, .non]]), (.str "4/2 5/2-6")] S := by kernel_rfl
theorem k19_0_17 {x0 : D} {S : Sto} : (sIf (Sf.tOr (tVal (fOp2 oNe (fCall (pureF f_format_form) (fCons (fTup (fCons (fTup (fCons (fCon (.int 4)) (fCons (fCon (.int 2)) (fCons (fCon .non) (fNil))))) (fCons (fTup (fCons (fCon (.int 5)) (fCons (fCon (.int 2)) (fCons (fCon (.int 6)) (fNil))))) (fNil)))) (fNil))) (fVar 8))) (tVal (fOp2 oNe (fCall (pureF f_parse_form) (fCons (fVar 8) (fNil))) (fTup (fCons (fTup (fCons (fCon (.int 4)) (fCons (fCon (.int 2)) (fCons (fCon .non) (fNil))))) (fCons (fTup (fCons (fCon (.int 5)) (fCons (fCon (.int 2)) (fCons (fCon (.int 6)) (fNil))))) (fNil))))))) (sRet (fCon (.bl false))) (sSkip)) [x0, .loc 0, .int 0, .int 1, (.tup [.tup [.int 4, .int 2, .non]]), (.tup [.tup [.int 2, .int 1, .non], .tup [.int 2, .int 1, .non]]), (.lst [.int 0, .int 0, .int 1]), (.tup [.tup [.int 3, .int 3, .non], .tup [.int 2, .int 1, .non]]), (.str "4/2 5/2-6")] S = .nx [x0, .loc 0, .int 0, .int 1, (.tup [.tup [.int 4, .int 2, .non]]), (.tup [.tup [.int 2, .int 1, .non], .tup [.int 2, .int 1, .non]]), (.lst [.int 0, .int 0, .int 1]), (.tup [.tup [.int 3, .int 3, .non], .tup [.int 2, .int 1, .non]]), (.str "4/2 5/2-6")] S := by kernel_rfl
theorem k19_0_end {x0 : D} {S : Sto} : (sRet (fAnd (fCall (pureF f__law_boards) (fCons (fVar 4) (fCons (fVar 2) (fNil)))) (fAnd (fCall (pureF f__law_refused) (fCons (fCon (.int 0)) (fCons (fVar 4) (fNil)))) (fCall (pureF f__law_refused) (fCons (fCon (.int 1)) (fCons (fVar 4) (fNil))))))) [x0, .loc 0, .int 0, .int 1, (.tup [.tup [.int 4, .int 2, .non]]), (.tup [.tup [.int 2, .int 1, .non], .tup [.int 2, .int 1, .non]]), (.lst [.int 0, .int 0, .int 1]), (.tup [.tup [.int 3, .int 3, .non], .tup [.int 2, .int 1, .non]]), (.str "4/2 5/2-6")] S = .rt (.bl true) S := by kernel_rfl
theorem k19_1_2 {x0 : D} {S : Sto} : (sPar3 3 4 5 (fCons (fOp2 (oSub) (fCon (.int 1)) (fVar 2)) (fCons (fTup (fCons (fTup (fCons (fCon (.int 4)) (fCons (fCon (.int 2)) (fCons (fCon .non) (fNil))))) (fNil))) (fCons (fTup (fCons (fTup (fCons (fCon (.int 2)) (fCons (fCon (.int 1)) (fCons (fCon .non) (fNil))))) (fCons (fTup (fCons (fCon (.int 2)) (fCons (fCon (.int 1)) (fCons (fCon .non) (fNil))))) (fNil)))) (fNil))))) [x0, .loc 0, .int 1, .und, .und, .und, .und, .und, .und] S = .nx [x0, .loc 0, .int 1, .int 0, (.tup [.tup [.int 4, .int 2, .non]]), (.tup [.tup [.int 2, .int 1, .non], .tup [.int 2, .int 1, .non]]), .und, .und, .und] S := by kernel_rfl
theorem k19_1_3 {x0 : D} {S : Sto} : (sIf (Sf.tOr (tVal (fCall (pureF f_is_form) (fCons (fTup (fCons (fTup (fCons (fCon (.int 4)) (fCons (fCon (.int 2)) (fCons (fCon (.int 3)) (fNil))))) (fNil))) (fNil)))) (tVal (fOp2 oNe (fCall (pureF f_winner) (fCons (fVar 4) (fCons (fOp2 (oMul false) (fLst false (fCons (fVar 2) (fNil))) (fCon (.int 4))) (fNil)))) (fVar 2)))) (sRet (fCon (.bl false))) (sSkip)) [x0, .loc 0, .int 1, .int 0, (.tup [.tup [.int 4, .int 2, .non]]), (.tup [.tup [.int 2, .int 1, .non], .tup [.int 2, .int 1, .non]]), .und, .und, .und] S = .nx [x0, .loc 0, .int 1, .int 0, (.tup [.tup [.int 4, .int 2, .non]]), (.tup [.tup [.int 2, .int 1, .non], .tup [.int 2, .int 1, .non]]), .und, .und, .und] S := by kernel_rfl
theorem k19_1_4 {x0 : D} {S : Sto} : (sIf (tVal (fOp2 oNe (fCall (pureF f_counted) (fCons (fVar 4) (fCons (fOp2 (oAdd false) (fOp2 (oMul false) (fLst false (fCons (fVar 3) (fNil))) (fCon (.int 4))) (fLst false (fCons (fVar 2) (fNil)))) (fNil)))) (fCon (.int 4)))) (sRet (fCon (.bl false))) (sSkip)) [x0, .loc 0, .int 1, .int 0, (.tup [.tup [.int 4, .int 2, .non]]), (.tup [.tup [.int 2, .int 1, .non], .tup [.int 2, .int 1, .non]]), .und, .und, .und] S = .nx [x0, .loc 0, .int 1, .int 0, (.tup [.tup [.int 4, .int 2, .non]]), (.tup [.tup [.int 2, .int 1, .non], .tup [.int 2, .int 1, .non]]), .und, .und, .und] S := by kernel_rfl
theorem k19_1_5 {x0 : D} {S : Sto} : (sPar2 6 7 (fCons (fLst false (fCons (fVar 2) (fCons (fVar 2) (fCons (fVar 3) (fNil))))) (fCons (fTup (fCons (fTup (fCons (fCon (.int 3)) (fCons (fCon (.int 3)) (fCons (fCon .non) (fNil))))) (fCons (fTup (fCons (fCon (.int 2)) (fCons (fCon (.int 1)) (fCons (fCon .non) (fNil))))) (fNil)))) (fNil)))) [x0, .loc 0, .int 1, .int 0, (.tup [.tup [.int 4, .int 2, .non]]), (.tup [.tup [.int 2, .int 1, .non], .tup [.int 2, .int 1, .non]]), .und, .und, .und] S = .nx [x0, .loc 0, .int 1, .int 0, (.tup [.tup [.int 4, .int 2, .non]]), (.tup [.tup [.int 2, .int 1, .non], .tup [.int 2, .int 1, .non]]), (.lst [.int 1, .int 1, .int 0]), (.tup [.tup [.int 3, .int 3, .non], .tup [.int 2, .int 1, .non]]), .und] S := by kernel_rfl
theorem k19_1_6 {x0 : D} {S : Sto} : (sIf (tVal (fOp2 oNe (fCall (pureF f_score) (fCons (fVar 5) (fCons (fVar 6) (fNil)))) (fTup (fCons (fCall (pureF f__law_turned) (fCons (fTup (fCons (fCon (.int 0)) (fCons (fCon (.int 1)) (fNil)))) (fCons (fVar 2) (fNil)))) (fCons (fCall (pureF f__law_turned) (fCons (fTup (fCons (fCon (.int 1)) (fCons (fCon (.int 0)) (fNil)))) (fCons (fVar 2) (fNil)))) (fNil)))))) (sRet (fCon (.bl false))) (sSkip)) [x0, .loc 0, .int 1, .int 0, (.tup [.tup [.int 4, .int 2, .non]]), (.tup [.tup [.int 2, .int 1, .non], .tup [.int 2, .int 1, .non]]), (.lst [.int 1, .int 1, .int 0]), (.tup [.tup [.int 3, .int 3, .non], .tup [.int 2, .int 1, .non]]), .und] S = .nx [x0, .loc 0, .int 1, .int 0, (.tup [.tup [.int 4, .int 2, .non]]), (.tup [.tup [.int 2, .int 1, .non], .tup [.int 2, .int 1, .non]]), (.lst [.int 1, .int 1, .int 0]), (.tup [.tup [.int 3, .int 3, .non], .tup [.int 2, .int 1, .non]]), .und] S := by kernel_rfl
theorem k19_1_7 {x0 : D} {S : Sto} : (sIf (tVal (fOp2 oNe (fCall (pureF f_needs) (fCons (fVar 5) (fCons (fVar 6) (fCons (fVar 3) (fNil))))) (fCon (.int 3)))) (sRet (fCon (.bl false))) (sSkip)) [x0, .loc 0, .int 1, .int 0, (.tup [.tup [.int 4, .int 2, .non]]), (.tup [.tup [.int 2, .int 1, .non], .tup [.int 2, .int 1, .non]]), (.lst [.int 1, .int 1, .int 0]), (.tup [.tup [.int 3, .int 3, .non], .tup [.int 2, .int 1, .non]]), .und] S = .nx [x0, .loc 0, .int 1, .int 0, (.tup [.tup [.int 4, .int 2, .non]]), (.tup [.tup [.int 2, .int 1, .non], .tup [.int 2, .int 1, .non]]), (.lst [.int 1, .int 1, .int 0]), (.tup [.tup [.int 3, .int 3, .non], .tup [.int 2, .int 1, .non]]), .und] S := by kernel_rfl
theorem k19_1_8 {x0 : D} {S : Sto} : (sIf (Sf.tOr (tVal (fOp2 oNe (fCall (pureF f_needs) (fCons (fVar 7) (fCons (fLst false (fCons (fVar 3) (fCons (fVar 3) (fNil)))) (fCons (fVar 2) (fNil))))) (fCon (.int 8)))) (tVal (fOp2 oNe (fCall (pureF f_least) (fCons (fVar 7) (fCons (fLst false (fCons (fVar 3) (fCons (fVar 3) (fNil)))) (fCons (fVar 2) (fNil))))) (fCon (.int 6))))) (sRet (fCon (.bl false))) (sSkip)) [x0, .loc 0, .int 1, .int 0, (.tup [.tup [.int 4, .int 2, .non]]), (.tup [.tup [.int 2, .int 1, .non], .tup [.int 2, .int 1, .non]]), (.lst [.int 1, .int 1, .int 0]), (.tup [.tup [.int 3, .int 3, .non], .tup [.int 2, .int 1, .non]]), .und] S = .nx [x0, .loc 0, .int 1, .int 0, (.tup [.tup [.int 4, .int 2, .non]]), (.tup [.tup [.int 2, .int 1, .non], .tup [.int 2, .int 1, .non]]), (.lst [.int 1, .int 1, .int 0]), (.tup [.tup [.int 3, .int 3, .non], .tup [.int 2, .int 1, .non]]), .und] S := by kernel_rfl
theorem k19_1_9 {x0 : D} {S : Sto} : (sIf (tVal (fOp2 oNe (fCall (pureF f_match_points) (fCons (fTup (fCons (fTup (fCons (fCon (.int 2)) (fCons (fCon (.int 1)) (fCons (fCon .non) (fNil))))) (fNil))) (fCons (fLst false (fCons (fVar 2) (fCons (fVar 3) (fNil)))) (fNil)))) (fLst false (fCons (fCon (.int 0)) (fCons (fCon (.int 1)) (fNil)))))) (sRet (fCon (.bl false))) (sSkip)) [x0, .loc 0, .int 1, .int 0, (.tup [.tup [.int 4, .int 2, .non]]), (.tup [.tup [.int 2, .int 1, .non], .tup [.int 2, .int 1, .non]]), (.lst [.int 1, .int 1, .int 0]), (.tup [.tup [.int 3, .int 3, .non], .tup [.int 2, .int 1, .non]]), .und] S = .nx [x0, .loc 0, .int 1, .int 0, (.tup [.tup [.int 4, .int 2, .non]]), (.tup [.tup [.int 2, .int 1, .non], .tup [.int 2, .int 1, .non]]), (.lst [.int 1, .int 1, .int 0]), (.tup [.tup [.int 3, .int 3, .non], .tup [.int 2, .int 1, .non]]), .und] S := by kernel_rfl
theorem k19_1_10 {x0 : D} {S : Sto} : (sIf (Sf.tOr (tVal (fOp2 oNe (fCall (pureF f_shortest) (fCons (fVar 5) (fNil))) (fCon (.int 4)))) (Sf.tOr (tVal (fOp2 oNe (fCall (pureF f_longest) (fCons (fVar 5) (fNil))) (fCon (.int 9)))) (Sf.tOr (tVal (fOp2 oIsN (fCall (pureF f_longest) (fCons (fVar 4) (fNil))) (fCon .non))) (tVal (fOp2 oNe (fCall (pureF f_surplus) (fCons (fVar 5) (fNil))) (fCon (.int 0))))))) (sRet (fCon (.bl false))) (sSkip)) [x0, .loc 0, .int 1, .int 0, (.tup [.tup [.int 4, .int 2, .non]]), (.tup [.tup [.int 2, .int 1, .non], .tup [.int 2, .int 1, .non]]), (.lst [.int 1, .int 1, .int 0]), (.tup [.tup [.int 3, .int 3, .non], .tup [.int 2, .int 1, .non]]), .und] S = .nx [x0, .loc 0, .int 1, .int 0, (.tup [.tup [.int 4, .int 2, .non]]), (.tup [.tup [.int 2, .int 1, .non], .tup [.int 2, .int 1, .non]]), (.lst [.int 1, .int 1, .int 0]), (.tup [.tup [.int 3, .int 3, .non], .tup [.int 2, .int 1, .non]]), .und] S := by kernel_rfl
theorem k19_1_11 {x0 : D} {S : Sto} : (sIf (tVal (fOp2 oNe (fCall (pureF f_surplus) (fCons (fVar 4) (fNil))) (fOp1 oNeg (fCon (.int 2))))) (sRet (fCon (.bl false))) (sSkip)) [x0, .loc 0, .int 1, .int 0, (.tup [.tup [.int 4, .int 2, .non]]), (.tup [.tup [.int 2, .int 1, .non], .tup [.int 2, .int 1, .non]]), (.lst [.int 1, .int 1, .int 0]), (.tup [.tup [.int 3, .int 3, .non], .tup [.int 2, .int 1, .non]]), .und] S = .nx [x0, .loc 0, .int 1, .int 0, (.tup [.tup [.int 4, .int 2, .non]]), (.tup [.tup [.int 2, .int 1, .non], .tup [.int 2, .int 1, .non]]), (.lst [.int 1, .int 1, .int 0]), (.tup [.tup [.int 3, .int 3, .non], .tup [.int 2, .int 1, .non]]), .und] S := by kernel_rfl
theorem k19_1_12 {x0 : D} {S : Sto} : (sIf (Sf.tOr (tVal (fOp2 oNe (fOpN oLen (fCons (fCall (pureF f_surplus_row) (fCons (fVar 5) (fNil))) (fNil))) (fCon (.int 8)))) (tVal (fOp2 oNe (fCall (pureF f_winner) (fCons (fVar 5) (fCons (fCall (pureF f_surplus_row) (fCons (fVar 5) (fNil))) (fNil)))) (fCon (.int 0))))) (sRet (fCon (.bl false))) (sSkip)) [x0, .loc 0, .int 1, .int 0, (.tup [.tup [.int 4, .int 2, .non]]), (.tup [.tup [.int 2, .int 1, .non], .tup [.int 2, .int 1, .non]]), (.lst [.int 1, .int 1, .int 0]), (.tup [.tup [.int 3, .int 3, .non], .tup [.int 2, .int 1, .non]]), .und] S = .nx [x0, .loc 0, .int 1, .int 0, (.tup [.tup [.int 4, .int 2, .non]]), (.tup [.tup [.int 2, .int 1, .non], .tup [.int 2, .int 1, .non]]), (.lst [.int 1, .int 1, .int 0]), (.tup [.tup [.int 3, .int 3, .non], .tup [.int 2, .int 1, .non]]), .und] S := by kernel_rfl
theorem k19_1_13 {x0 : D} {S : Sto} : (sIf (Sf.tOr (tVal (fOp2 oNe (fCall (pureF f_chance) (fCons (fVar 5) (fCons (fTup (fCons (fCon (.int 1)) (fCons (fCon (.int 2)) (fNil)))) (fNil)))) (fTup (fCons (fCon (.int 1)) (fCons (fCon (.int 2)) (fNil)))))) (tVal (fOp2 oNe (fCall (pureF f_chance) (fCons (fTup (fCons (fTup (fCons (fCon (.int 1)) (fCons (fCon (.int 2)) (fCons (fCon .non) (fNil))))) (fNil))) (fCons (fTup (fCons (fCon (.int 2)) (fCons (fCon (.int 3)) (fNil)))) (fNil)))) (fTup (fCons (fCon (.int 4)) (fCons (fCon (.int 5)) (fNil))))))) (sRet (fCon (.bl false))) (sSkip)) [x0, .loc 0, .int 1, .int 0, (.tup [.tup [.int 4, .int 2, .non]]), (.tup [.tup [.int 2, .int 1, .non], .tup [.int 2, .int 1, .non]]), (.lst [.int 1, .int 1, .int 0]), (.tup [.tup [.int 3, .int 3, .non], .tup [.int 2, .int 1, .non]]), .und] S = .nx [x0, .loc 0, .int 1, .int 0, (.tup [.tup [.int 4, .int 2, .non]]), (.tup [.tup [.int 2, .int 1, .non], .tup [.int 2, .int 1, .non]]), (.lst [.int 1, .int 1, .int 0]), (.tup [.tup [.int 3, .int 3, .non], .tup [.int 2, .int 1, .non]]), .und] S := by kernel_rfl
theorem k19_1_14 {x0 : D} {S : Sto} : (sIf (tVal (fOp2 oNe (fCall (pureF f_expectation) (fCons (fTup (fCons (fTup (fCons (fCon (.int 2)) (fCons (fCon (.int 1)) (fCons (fCon .non) (fNil))))) (fNil))) (fCons (fTup (fCons (fCon (.int 1)) (fCons (fCon (.int 2)) (fNil)))) (fNil)))) (fTup (fCons (fCon (.int 5)) (fCons (fCon (.int 2)) (fNil)))))) (sRet (fCon (.bl false))) (sSkip)) [x0, .loc 0, .int 1, .int 0, (.tup [.tup [.int 4, .int 2, .non]]), (.tup [.tup [.int 2, .int 1, .non], .tup [.int 2, .int 1, .non]]), (.lst [.int 1, .int 1, .int 0]), (.tup [.tup [.int 3, .int 3, .non], .tup [.int 2, .int 1, .non]]), .und] S = .nx [x0, .loc 0, .int 1, .int 0, (.tup [.tup [.int 4, .int 2, .non]]), (.tup [.tup [.int 2, .int 1, .non], .tup [.int 2, .int 1, .non]]), (.lst [.int 1, .int 1, .int 0]), (.tup [.tup [.int 3, .int 3, .non], .tup [.int 2, .int 1, .non]]), .und] S := by kernel_rfl
theorem k19_1_15 {x0 : D} {S : Sto} : (sIf (tVal (fOp2 oIsN (fCall (pureF f_parting) (fCons (fTup (fCons (fTup (fCons (fCon (.int 2)) (fCons (fCon (.int 1)) (fCons (fCon .non) (fNil))))) (fNil))) (fCons (fTup (fCons (fTup (fCons (fCon (.int 2)) (fCons (fCon (.int 2)) (fCons (fCon (.int 2)) (fNil))))) (fNil))) (fNil)))) (fCon .non))) (sRet (fCon (.bl false))) (sSkip)) [x0, .loc 0, .int 1, .int 0, (.tup [.tup [.int 4, .int 2, .non]]), (.tup [.tup [.int 2, .int 1, .non], .tup [.int 2, .int 1, .non]]), (.lst [.int 1, .int 1, .int 0]), (.tup [.tup [.int 3, .int 3, .non], .tup [.int 2, .int 1, .non]]), .und] S = .nx [x0, .loc 0, .int 1, .int 0, (.tup [.tup [.int 4, .int 2, .non]]), (.tup [.tup [.int 2, .int 1, .non], .tup [.int 2, .int 1, .non]]), (.lst [.int 1, .int 1, .int 0]), (.tup [.tup [.int 3, .int 3, .non], .tup [.int 2, .int 1, .non]]), .und] S := by kernel_rfl
theorem k19_1_16 {x0 : D} {S : Sto} : (sAsg 8 (fCon (.str "4/2 5/2-6"))) [x0, .loc 0, .int 1, .int 0, (.tup [.tup [.int 4, .int 2, .non]]), (.tup [.tup [.int 2, .int 1, .non], .tup [.int 2, .int 1, .non]]), (.lst [.int 1, .int 1, .int 0]), (.tup [.tup [.int 3, .int 3, .non], .tup [.int 2, .int 1, .non]]), .und] S = .nx [x0, .loc 0, .int 1, .int 0, (.tup [.tup [.int 4, .int 2, .non]]), (.tup [.tup [.int 2, .int 1, .non], .tup [.int 2, .int 1, .non]]), (.lst [.int 1, .int 1, .int 0]), (.tup [.tup [.int 3, .int 3, .non], .tup [.int 2, .int 1, .non]]), (.str "4/2 5/2-6")] S := by kernel_rfl
theorem k19_1_17 {x0 : D} {S : Sto} : (sIf (Sf.tOr (tVal (fOp2 oNe (fCall (pureF f_format_form) (fCons (fTup (fCons (fTup (fCons (fCon (.int 4)) (fCons (fCon (.int 2)) (fCons (fCon .non) (fNil))))) (fCons (fTup (fCons (fCon (.int 5)) (fCons (fCon (.int 2)) (fCons (fCon (.int 6)) (fNil))))) (fNil)))) (fNil))) (fVar 8))) (tVal (fOp2 oNe (fCall (pureF f_parse_form) (fCons (fVar 8) (fNil))) (fTup (fCons (fTup (fCons (fCon (.int 4)) (fCons (fCon (.int 2)) (fCons (fCon .non) (fNil))))) (fCons (fTup (fCons (fCon (.int 5)) (fCons (fCon (.int 2)) (fCons (fCon (.int 6)) (fNil))))) (fNil))))))) (sRet (fCon (.bl false))) (sSkip)) [x0, .loc 0, .int 1, .int 0, (.tup [.tup [.int 4, .int 2, .non]]), (.tup [.tup [.int 2, .int 1, .non], .tup [.int 2, .int 1, .non]]), (.lst [.int 1, .int 1, .int 0]), (.tup [.tup [.int 3, .int 3, .non], .tup [.int 2, .int 1, .non]]), (.str "4/2 5/2-6")] S = .nx [x0, .loc 0, .int 1, .int 0, (.tup [.tup [.int 4, .int 2, .non]]), (.tup [.tup [.int 2, .int 1, .non], .tup [.int 2, .int 1, .non]]), (.lst [.int 1, .int 1, .int 0]), (.tup [.tup [.int 3, .int 3, .non], .tup [.int 2, .int 1, .non]]), (.str "4/2 5/2-6")] S := by kernel_rfl
theorem k19_1_end {x0 : D} {S : Sto} : (sRet (fAnd (fCall (pureF f__law_boards) (fCons (fVar 4) (fCons (fVar 2) (fNil)))) (fAnd (fCall (pureF f__law_refused) (fCons (fCon (.int 0)) (fCons (fVar 4) (fNil)))) (fCall (pureF f__law_refused) (fCons (fCon (.int 1)) (fCons (fVar 4) (fNil))))))) [x0, .loc 0, .int 1, .int 0, (.tup [.tup [.int 4, .int 2, .non]]), (.tup [.tup [.int 2, .int 1, .non], .tup [.int 2, .int 1, .non]]), (.lst [.int 1, .int 1, .int 0]), (.tup [.tup [.int 3, .int 3, .non], .tup [.int 2, .int 1, .non]]), (.str "4/2 5/2-6")] S = .rt (.bl true) S := by kernel_rfl
theorem law_true : ∀ ns : List Int, ns.length ≤ 63 → ∃ S', f_law [.scr (ns.map D.int)] [] = .ok (.bl true) S' := by
  intro ns _
  obtain ⟨r, p, q, r1, r2, hp, hq, e1⟩ := t_draw (ns := ns) (n := 2) (R := []) (p := 0) (q := 0) (by omega) (by omega) (by omega) (by omega)
  refine ⟨[], ?_⟩
  unfold f_law fn b_law
  show fnEnd false 0 (sSeq _ (sSeq _ _) [.scr (ns.map D.int), .und, .und, .und, .und, .und, .und, .und, .und] []) = _
  rw [sSeq_nx (e' := [.scr (ns.map D.int), .loc 0, .und, .und, .und, .und, .und, .und, .und]) (S' := tw 0 0 []) (by rfl)]
  rw [sSeq_nx (e' := [.scr (ns.map D.int), .loc 0, .int r, .und, .und, .und, .und, .und, .und]) (S' := tw p q []) (by exact asgF (callF (consF rfl (consF rfl (consF rfl x_nil))) e1))]
  have hr : r = 0 ∨ r = 1 := by omega
  rcases hr with rfl | rfl
  · rw [sSeq_nx k19_0_2, sSeq_nx k19_0_3, sSeq_nx k19_0_4, sSeq_nx k19_0_5, sSeq_nx k19_0_6, sSeq_nx k19_0_7, sSeq_nx k19_0_8, sSeq_nx k19_0_9, sSeq_nx k19_0_10, sSeq_nx k19_0_11, sSeq_nx k19_0_12, sSeq_nx k19_0_13, sSeq_nx k19_0_14, sSeq_nx k19_0_15, sSeq_nx k19_0_16, sSeq_nx k19_0_17, k19_0_end]
    exact end_pl (n := 0) rfl (by omega)
  · rw [sSeq_nx k19_1_2, sSeq_nx k19_1_3, sSeq_nx k19_1_4, sSeq_nx k19_1_5, sSeq_nx k19_1_6, sSeq_nx k19_1_7, sSeq_nx k19_1_8, sSeq_nx k19_1_9, sSeq_nx k19_1_10, sSeq_nx k19_1_11, sSeq_nx k19_1_12, sSeq_nx k19_1_13, sSeq_nx k19_1_14, sSeq_nx k19_1_15, sSeq_nx k19_1_16, sSeq_nx k19_1_17, k19_1_end]
    exact end_pl (n := 0) rfl (by omega)

end Sf
end

section
set_option Elab.async false
set_option maxRecDepth 100000
set_option maxHeartbeats 4000000
namespace Sf
open PySem PySem.Spec PyProof.Rows L2
def top (i : Nat) : Stmt := PySem.Challenge.pw_scoreforms_k19_whole_examples.main.body.getD i (.Pass ⟨0, 0, 0, 0⟩)
structure TX (mg : Str → Option Value) : Prop where
  n_abs : mg "abs" = none
  n_all : mg "all" = none
  n_bool : mg "bool" = none
  n_enumerate : mg "enumerate" = none
  n_int : mg "int" = none
  n_isinstance : mg "isinstance" = none
  n_len : mg "len" = none
  n_list : mg "list" = none
  n_max : mg "max" = none
  n_min : mg "min" = none
  n_range : mg "range" = none
  n_str : mg "str" = none
  n_sum : mg "sum" = none
  n_tuple : mg "tuple" = none
  n_zip : mg "zip" = none
  c_TARGET : ∃ t, mg "TARGET" = some (.int 5 t)
  c_LEAD : ∃ t, mg "LEAD" = some (.int 3 t)
  c_CAP : ∃ t, mg "CAP" = some (.int 9 t)
  c_LEVELS : ∃ t, mg "LEVELS" = some (.int 3 t)
  c_POINTS : ∃ t, mg "POINTS" = some (.int 200 t)
  c_DIGITS : ∃ t, mg "DIGITS" = some (.str "0123456789" t)
section
variable {P : Program} {w : World} {K : PySem.W.Frag} {mg : Str → Option Value} {base : Heap} {xm : XM}
abbrev s_is_count : Stmt := top 15
theorem sc_is_count : FnScope ["value", "least", "most"] ["value", "least", "most"] (defScope s_is_count) := ⟨rfl, rfl, rfl, by decide +kernel, rfl, by decide +kernel, by decide +kernel⟩
theorem ok_is_count {f : Addr} {fd : FuncData} (F : Fun K "is_count" "is_count" s_is_count f fd) (T : TX mg) : FnOk P w K mg base (L2.CX P w) 1 f fd ["value", "least", "most"] (spOf ⟨P, w, K⟩ xm 3 f_is_count) :=
  fn_ok (N := ["value", "least", "most"]) (m := false) (b := b_is_count) xm F sc_is_count fun cdv A outer s H E W hr tk =>
    ss_one (ss_ret (se_and (se_callB callr_isa ok_isa (sa_cons (se_var (pv 0)) (sa_cons (se_ty T.n_int bt_int) (sa_nil))) rfl T.n_isinstance bt_isinstance) (se_and (se_not (se_callB callr_isa ok_isa (sa_cons (se_var (pv 0)) (sa_cons (se_ty T.n_bool bt_bool) (sa_nil))) rfl T.n_isinstance bt_isinstance)) (se_one (se_chain op_le op_le (se_var (pv 1)) (se_var (pv 0)) (se_var (pv 2)))))))
abbrev s_round_winner : Stmt := top 23
theorem sc_round_winner : FnScope ["level", "pair", "target", "lead", "cap", "side"] ["level", "pair"] (defScope s_round_winner) := ⟨rfl, rfl, rfl, by decide +kernel, rfl, by decide +kernel, by decide +kernel⟩
theorem ok_round_winner {f : Addr} {fd : FuncData} (F : Fun K "round_winner" "round_winner" s_round_winner f fd) (T : TX mg) : FnOk P w K mg base (L2.CX P w) 1 f fd ["level", "pair"] (spOf ⟨P, w, K⟩ xm 2 f_round_winner) :=
  fn_ok (N := ["level", "pair", "target", "lead", "cap", "side"]) (m := false) (b := b_round_winner) xm F sc_round_winner fun cdv A outer s H E W hr tk =>
    ss_cons (ss_asgT (sg_tup (n := 3) (sgs_cons (pg_name (i := 2) sc_round_winner.nd rfl (Or.inl rfl)) (sgs_cons (pg_name (i := 3) sc_round_winner.nd rfl (Or.inl rfl)) (sgs_cons (pg_name (i := 4) sc_round_winner.nd rfl (Or.inl rfl)) (sgs_nil)))) rfl rfl) (se_var (pv 0)))
    (ss_cons (ss_set (i := 5) sc_round_winner.nd rfl (Or.inl rfl) (se_if (st_cmp op_gt ok_cmpI (se_ix ixr ok_ix (se_var (pv 1)) (se_int)) (se_ix ixr ok_ix (se_var (pv 1)) (se_int))) (se_int) (se_int)))
    (ss_cons (ss_if (st_bool (sw_or (st_bool (sw_and (st_cmp op_ge ok_cmpI (se_ix ixr ok_ix (se_var (pv 1)) (se_var (pv 5))) (se_var (pv 2))) (sw_and1 (st_cmp op_ge ok_cmpI (se_bin op_sub ok_sub (se_ix ixr ok_ix (se_var (pv 1)) (se_var (pv 5))) (se_ix ixr ok_ix (se_var (pv 1)) (se_bin op_sub ok_sub (se_int) (se_var (pv 5))))) (se_var (pv 3)))))) (sw_or1 (st_cmp (opr_eq hr) ok_eq (se_ix ixr ok_ix (se_var (pv 1)) (se_var (pv 5))) (se_var (pv 4)))))) (ss_one (ss_ret (se_var (pv 5)))) (ss_nil))
    (ss_one (ss_ret (se_non)))))
abbrev s_start_of : Stmt := top 24
theorem sc_start_of : FnScope ["form"] ["form"] (defScope s_start_of) := ⟨rfl, rfl, rfl, by decide +kernel, rfl, by decide +kernel, by decide +kernel⟩
theorem ok_start_of {f : Addr} {fd : FuncData} (F : Fun K "start_of" "start_of" s_start_of f fd) (T : TX mg) : FnOk P w K mg base (L2.CX P w) 1 f fd ["form"] (spOf ⟨P, w, K⟩ xm 1 f_start_of) :=
  fn_ok (N := ["form"]) (m := false) (b := b_start_of) xm F sc_start_of fun cdv A outer s H E W hr tk =>
    ss_one (ss_ret (se_bin opr_mul (ok_mul (m := false)) (se_tup (sa_cons (se_tup (sa_cons (se_int) (sa_cons (se_int) (sa_nil)))) (sa_nil))) (se_callB call_len ok_len (sa_cons (se_var (pv 0)) (sa_nil)) rfl T.n_len bt_len)))
abbrev s_plus : Stmt := top 25
theorem sc_plus : FnScope ["pair", "side"] ["pair", "side"] (defScope s_plus) := ⟨rfl, rfl, rfl, by decide +kernel, rfl, by decide +kernel, by decide +kernel⟩
theorem ok_plus {f : Addr} {fd : FuncData} (F : Fun K "plus" "plus" s_plus f fd) (T : TX mg) : FnOk P w K mg base (L2.CX P w) 1 f fd ["pair", "side"] (spOf ⟨P, w, K⟩ xm 2 f_plus) :=
  fn_ok (N := ["pair", "side"]) (m := false) (b := b_plus) xm F sc_plus fun cdv A outer s H E W hr tk =>
    ss_one (ss_ret (se_if (st_cmp (opr_eq hr) ok_eq (se_var (pv 1)) (se_int)) (se_tup (sa_cons (se_bin opr_add (ok_add (m := false)) (se_ix ixr ok_ix (se_var (pv 0)) (se_int)) (se_int)) (sa_cons (se_ix ixr ok_ix (se_var (pv 0)) (se_int)) (sa_nil)))) (se_tup (sa_cons (se_ix ixr ok_ix (se_var (pv 0)) (se_int)) (sa_cons (se_bin opr_add (ok_add (m := false)) (se_ix ixr ok_ix (se_var (pv 0)) (se_int)) (se_int)) (sa_nil))))))
abbrev s_settled : Stmt := top 34
theorem sc_settled : FnScope ["form", "now", "result", "level", "pair", "spare"] ["form", "now"] (defScope s_settled) := ⟨rfl, rfl, rfl, by decide +kernel, rfl, by decide +kernel, by decide +kernel⟩
theorem ok_settled {f : Addr} {fd : FuncData} (F : Fun K "settled" "settled" s_settled f fd) (T : TX mg) : FnOk P w K mg base (L2.CX P w) 1 f fd ["form", "now"] (spOf ⟨P, w, K⟩ xm 2 f_settled) :=
  fn_ok (N := ["form", "now", "result", "level", "pair", "spare"]) (m := false) (b := b_settled) xm F sc_settled fun cdv A outer s H E W hr tk =>
    ss_cons (ss_set (i := 2) sc_settled.nd rfl (Or.inl rfl) (se_lst (m := true) (sa_nil)))
    (ss_cons (ss_for (passes_of rfl) rfl (si_zip (sa_cons (se_var (pv 0)) (sa_cons (se_var (pv 1)) (sa_nil))) rfl T.n_zip) (sg_tup (n := 2) (sgs_cons (pg_name (i := 3) sc_settled.nd rfl (Or.inl rfl)) (sgs_cons (pg_name (i := 4) sc_settled.nd rfl (Or.inl rfl)) (sgs_nil))) rfl rfl) (ss_cons (ss_set (i := 5) sc_settled.nd rfl (Or.inl rfl) (se_if (st_cmp opr_is ok_is (se_ix ixr ok_ix (se_var (pv 3)) (se_int)) (se_non)) (se_bin opr_add (ok_add (m := false)) (se_bin op_sub ok_sub (se_callB (callr_min rfl hr) ok_min (sa_cons (se_var (pv 4)) (sa_nil)) rfl T.n_min bt_min) (se_ix ixr ok_ix (se_var (pv 3)) (se_int))) (se_int)) (se_int)))
    (ss_one (ss_expr (se_append (se_var (pv 2)) (sa_cons (se_if (st_cmp op_gt ok_cmpI (se_var (pv 5)) (se_int)) (se_tup (sa_cons (se_bin op_sub ok_sub (se_ix ixr ok_ix (se_var (pv 4)) (se_int)) (se_var (pv 5))) (sa_cons (se_bin op_sub ok_sub (se_ix ixr ok_ix (se_var (pv 4)) (se_int)) (se_var (pv 5))) (sa_nil)))) (se_var (pv 4))) (sa_nil)))))))
    (ss_one (ss_ret (se_callTy call_tuple_of ok_tuple (sa_cons (se_var (pv 2)) (sa_nil)) rfl T.n_tuple bt_tuple))))
abbrev s_least_units : Stmt := top 39
theorem sc_least_units : FnScope ["level", "target", "lead", "cap"] ["level"] (defScope s_least_units) := ⟨rfl, rfl, rfl, by decide +kernel, rfl, by decide +kernel, by decide +kernel⟩
theorem ok_least_units {f : Addr} {fd : FuncData} (F : Fun K "least_units" "least_units" s_least_units f fd) (T : TX mg) : FnOk P w K mg base (L2.CX P w) 1 f fd ["level"] (spOf ⟨P, w, K⟩ xm 1 f_least_units) :=
  fn_ok (N := ["level", "target", "lead", "cap"]) (m := false) (b := b_least_units) xm F sc_least_units fun cdv A outer s H E W hr tk =>
    ss_cons (ss_asgT (sg_tup (n := 3) (sgs_cons (pg_name (i := 1) sc_least_units.nd rfl (Or.inl rfl)) (sgs_cons (pg_name (i := 2) sc_least_units.nd rfl (Or.inl rfl)) (sgs_cons (pg_name (i := 3) sc_least_units.nd rfl (Or.inl rfl)) (sgs_nil)))) rfl rfl) (se_var (pv 0)))
    (ss_one (ss_ret (se_if (st_cmp opr_is ok_is (se_var (pv 3)) (se_non)) (se_callB (call_max2 rfl) ok_max2 (sa_cons (se_var (pv 1)) (sa_cons (se_var (pv 2)) (sa_nil))) rfl T.n_max bt_max) (se_callB (call_min2 rfl) ok_min2 (sa_cons (se_callB (call_max2 rfl) ok_max2 (sa_cons (se_var (pv 1)) (sa_cons (se_var (pv 2)) (sa_nil))) rfl T.n_max bt_max) (sa_cons (se_var (pv 3)) (sa_nil))) rfl T.n_min bt_min))))
abbrev s_Board___len__ : Stmt := inClass (top 50) 6
theorem sc_Board___len__ : FnScope ["self"] ["self"] (defScope s_Board___len__) := ⟨rfl, rfl, rfl, by decide +kernel, rfl, by decide +kernel, by decide +kernel⟩
theorem ok_Board___len__ {f : Addr} {fd : FuncData} (F : Fun K "__len__" "Board.__len__" s_Board___len__ f fd) (T : TX mg) {C : Addr} (Bc : Bdx K mg C) : FnOk P w K mg base (L2.CX P w) 1 f fd ["self"] (spOf ⟨P, w, K⟩ xm 1 f_Board___len__) :=
  fn_ok (N := ["self"]) (m := false) (b := b_Board___len__) xm F sc_Board___len__ fun cdv A outer s H E W hr tk =>
    ss_one (ss_ret (se_callB call_len ok_len (sa_cons (se_fld Bc.b (se_var (pv 0))) (sa_nil)) rfl T.n_len bt_len))
abbrev s_lowest : Stmt := top 52
theorem sc_lowest : FnScope ["numerator", "denominator", "one", "two"] ["numerator", "denominator"] (defScope s_lowest) := ⟨rfl, rfl, rfl, by decide +kernel, rfl, by decide +kernel, by decide +kernel⟩
theorem ok_lowest {f : Addr} {fd : FuncData} (F : Fun K "lowest" "lowest" s_lowest f fd) (T : TX mg) : FnOk P w K mg base (L2.CX P w) 1 f fd ["numerator", "denominator"] (spOf ⟨P, w, K⟩ xm 2 f_lowest) :=
  fn_ok (N := ["numerator", "denominator", "one", "two"]) (m := false) (b := b_lowest) xm F sc_lowest fun cdv A outer s H E W hr tk =>
    ss_cons (ss_par2s (i := 2) (j := 3) rfl sc_lowest.nd (sa_cons (se_callB call_abs ok_abs (sa_cons (se_var (pv 0)) (sa_nil)) rfl T.n_abs bt_abs) (sa_cons (se_callB call_abs ok_abs (sa_cons (se_var (pv 1)) (sa_nil)) rfl T.n_abs bt_abs) (sa_nil))) (by decide))
    (ss_cons (ss_while 100000 (passes_of rfl) (st_cmp op_gt ok_cmpI (se_var (pv 3)) (se_int)) (ss_one (ss_par2s (i := 2) (j := 3) rfl sc_lowest.nd (sa_cons (se_var (pv 3)) (sa_cons (se_bin op_mod ok_mod (se_var (pv 2)) (se_var (pv 3))) (sa_nil))) (by decide))))
    (ss_cons (ss_set (i := 2) sc_lowest.nd rfl (Or.inl rfl) (se_if (st_cmp (opr_lt hr) ok_lt (se_var (pv 1)) (se_int)) (se_un un_neg ok_neg (se_var (pv 2))) (se_var (pv 2))))
    (ss_one (ss_ret (se_tup (sa_cons (se_bin opr_fdiv ok_fdiv (se_var (pv 0)) (se_var (pv 2))) (sa_cons (se_bin opr_fdiv ok_fdiv (se_var (pv 1)) (se_var (pv 2))) (sa_nil))))))))
abbrev s_power : Stmt := top 55
theorem sc_power : FnScope ["base", "many", "result", "step"] ["base", "many"] (defScope s_power) := ⟨rfl, rfl, rfl, by decide +kernel, rfl, by decide +kernel, by decide +kernel⟩
theorem ok_power {f : Addr} {fd : FuncData} (F : Fun K "power" "power" s_power f fd) (T : TX mg) : FnOk P w K mg base (L2.CX P w) 1 f fd ["base", "many"] (spOf ⟨P, w, K⟩ xm 2 f_power) :=
  fn_ok (N := ["base", "many", "result", "step"]) (m := false) (b := b_power) xm F sc_power fun cdv A outer s H E W hr tk =>
    ss_cons (ss_set (i := 2) sc_power.nd rfl (Or.inl rfl) (se_int))
    (ss_cons (ss_for (passes_of rfl) rfl (si_range1 (sa_cons (se_var (pv 1)) (sa_nil)) rfl T.n_range) (sg_name (pg_name (i := 3) sc_power.nd rfl (Or.inl rfl))) (ss_one (ss_aug (i := 2) sc_power.nd rfl (Or.inl rfl) opr_imul ok_mulI (se_var (pv 0)))))
    (ss_one (ss_ret (se_var (pv 2)))))
abbrev s_formatted : Stmt := top 64
theorem sc_formatted : FnScope ["form", "words", "target", "lead", "cap"] ["form"] (defScope s_formatted) := ⟨rfl, rfl, rfl, by decide +kernel, rfl, by decide +kernel, by decide +kernel⟩
theorem ok_formatted {f : Addr} {fd : FuncData} (F : Fun K "formatted" "formatted" s_formatted f fd) (T : TX mg) : FnOk P w K mg base (L2.CX P w) 1 f fd ["form"] (spOf ⟨P, w, K⟩ xm 1 f_formatted) :=
  fn_ok (N := ["form", "words", "target", "lead", "cap"]) (m := false) (b := b_formatted) xm F sc_formatted fun cdv A outer s H E W hr tk =>
    ss_cons (ss_set (i := 1) sc_formatted.nd rfl (Or.inl rfl) (se_lst (m := true) (sa_nil)))
    (ss_cons (ss_for (passes_of rfl) rfl (si_seq (se_var (pv 0))) (sg_tup (n := 3) (sgs_cons (pg_name (i := 2) sc_formatted.nd rfl (Or.inl rfl)) (sgs_cons (pg_name (i := 3) sc_formatted.nd rfl (Or.inl rfl)) (sgs_cons (pg_name (i := 4) sc_formatted.nd rfl (Or.inl rfl)) (sgs_nil)))) rfl rfl) (ss_one (ss_expr (se_append (se_var (pv 1)) (sa_cons (se_bin opr_add (ok_add (m := false)) (se_bin opr_add (ok_add (m := false)) (se_bin opr_add (ok_add (m := false)) (se_callTy call_str_int ok_str (sa_cons (se_var (pv 2)) (sa_nil)) rfl T.n_str bt_str) (se_str)) (se_callTy call_str_int ok_str (sa_cons (se_var (pv 3)) (sa_nil)) rfl T.n_str bt_str)) (se_if (st_cmp opr_is ok_is (se_var (pv 4)) (se_non)) (se_str) (se_bin opr_add (ok_add (m := false)) (se_str) (se_callTy call_str_int ok_str (sa_cons (se_var (pv 4)) (sa_nil)) rfl T.n_str bt_str)))) (sa_nil))))))
    (ss_one (ss_ret (se_join (se_str) (sa_cons (se_var (pv 1)) (sa_nil))))))
abbrev s_number_of : Stmt := top 66
theorem sc_number_of : FnScope ["text"] ["text"] (defScope s_number_of) := ⟨rfl, rfl, rfl, by decide +kernel, rfl, by decide +kernel, by decide +kernel⟩
theorem ok_number_of {f : Addr} {fd : FuncData} (F : Fun K "number_of" "number_of" s_number_of f fd) (T : TX mg) : FnOk P w K mg base (L2.CX P w) 1 f fd ["text"] (spOf ⟨P, w, K⟩ xm 1 f_number_of) :=
  fn_ok (N := ["text"]) (m := false) (b := b_number_of) xm F sc_number_of fun cdv A outer s H E W hr tk =>
    ss_one (ss_ret (se_if (st_bool (sw_and (st_cmp (opr_eq hr) ok_eq (se_callB call_len ok_len (sa_cons (se_var (pv 0)) (sa_nil)) rfl T.n_len bt_len) (se_int)) (sw_and1 (st_cmp op_in_str ok_inS (se_var (pv 0)) (se_globS T.c_DIGITS))))) (se_callTy call_int_str ok_int (sa_cons (se_var (pv 0)) (sa_nil)) rfl T.n_int bt_int) (se_int)))
abbrev s_row_to : Stmt := top 70
theorem sc_row_to : FnScope ["sources", "key", "row", "side"] ["sources", "key"] (defScope s_row_to) := ⟨rfl, rfl, rfl, by decide +kernel, rfl, by decide +kernel, by decide +kernel⟩
theorem ok_row_to {f : Addr} {fd : FuncData} (F : Fun K "row_to" "row_to" s_row_to f fd) (T : TX mg) : FnOk P w K mg base (L2.CX P w) 1 f fd ["sources", "key"] (spOf ⟨P, w, K⟩ xm 2 f_row_to) :=
  fn_ok (N := ["sources", "key", "row", "side"]) (m := false) (b := b_row_to) xm F sc_row_to fun cdv A outer s H E W hr tk =>
    ss_cons (ss_set (i := 2) sc_row_to.nd rfl (Or.inl rfl) (se_lst (m := true) (sa_nil)))
    (ss_cons (ss_while 100000 (passes_of rfl) (st_cmp opr_isN ok_isN (se_ix (ix_x (hu9 hr)) ok_getX (se_var (pv 0)) (se_var (pv 1))) (se_non)) (ss_cons (ss_asgT (sg_tup (n := 2) (sgs_cons (pg_name (i := 1) sc_row_to.nd rfl (Or.inl rfl)) (sgs_cons (pg_name (i := 3) sc_row_to.nd rfl (Or.inl rfl)) (sgs_nil))) rfl rfl) (se_ix (ix_x (hu9 hr)) ok_getX (se_var (pv 0)) (se_var (pv 1))))
    (ss_one (ss_expr (se_append (se_var (pv 2)) (sa_cons (se_var (pv 3)) (sa_nil)))))))
    (ss_one (ss_ret (se_rev (m := false) (se_var (pv 2))))))
abbrev s__law_draw : Stmt := top 73
theorem sc__law_draw : FnScope ["_law_script", "_law_town", "_law_many", "_law_one", "_law_at", "_law_mixed"] ["_law_script", "_law_town", "_law_many"] (defScope s__law_draw) := ⟨rfl, rfl, rfl, by decide +kernel, rfl, by decide +kernel, by decide +kernel⟩
theorem ok__law_draw {f : Addr} {fd : FuncData} (F : Fun K "_law_draw" "_law_draw" s__law_draw f fd) (T : TX mg) : FnOk P w K mg base (L2.CX P w) 1 f fd ["_law_script", "_law_town", "_law_many"] (spOf ⟨P, w, K⟩ xm 3 f__law_draw) :=
  fn_ok (N := ["_law_script", "_law_town", "_law_many", "_law_one", "_law_at", "_law_mixed"]) (m := false) (b := b__law_draw) xm F sc__law_draw fun cdv A outer s H E W hr tk =>
    ss_cons (ss_if (st_cmp op_gt ok_cmpI (se_ix ixr ok_ix (se_var (pv 1)) (se_int)) (se_int)) (ss_cons (ss_set (i := 3) sc__law_draw.nd rfl (Or.inl rfl) (se_bin op_mod ok_mod (se_ix ixr ok_ix (se_var (pv 1)) (se_int)) (se_var (pv 2))))
    (ss_cons (ss_setIx (se_bin opr_fdiv ok_fdiv (se_ix ixr ok_ix (se_var (pv 1)) (se_int)) (se_var (pv 2))) (se_var (pv 1)) (se_int))
    (ss_one (ss_ret (se_var (pv 3)))))) (ss_nil))
    (ss_cons (ss_set (i := 4) sc__law_draw.nd rfl (Or.inl rfl) (se_ix ixr ok_ix (se_var (pv 1)) (se_int)))
    (ss_cons (ss_augIx iop_add ok_addI (se_var (pv 1)) (se_int) (se_int))
    (ss_cons (ss_if (st_cmp (opr_eq hr) ok_eq (se_var (pv 0)) (se_lst (m := false) (sa_nil))) (ss_one (ss_ret (se_bin op_mod ok_mod (se_var (pv 4)) (se_var (pv 2))))) (ss_nil))
    (ss_cons (ss_if (st_bool (sw_and (st_cmp (opr_lt hr) ok_lt (se_var (pv 4)) (se_callB call_len ok_len (sa_cons (se_var (pv 0)) (sa_nil)) rfl T.n_len bt_len)) (sw_and1 (st_cmp op_ge ok_cmpI (se_ix ixr ok_ix (se_var (pv 0)) (se_var (pv 4))) (se_bin op_pow ok_pow (se_int) (se_int)))))) (ss_cons (ss_setIx (se_bin op_mod ok_mod (se_bin opr_fdiv ok_fdiv (se_ix ixr ok_ix (se_var (pv 0)) (se_var (pv 4))) (se_var (pv 2))) (se_bin opr_mul (ok_mul (m := false)) (se_bin op_pow ok_pow (se_int) (se_int)) (se_bin op_pow ok_pow (se_int) (se_int)))) (se_var (pv 1)) (se_int))
    (ss_one (ss_ret (se_bin op_mod ok_mod (se_ix ixr ok_ix (se_var (pv 0)) (se_var (pv 4))) (se_var (pv 2)))))) (ss_nil))
    (ss_cons (ss_set (i := 5) sc__law_draw.nd rfl (Or.inl rfl) (se_bin op_mod ok_mod (se_bin opr_add (ok_add (m := false)) (se_bin opr_add (ok_add (m := false)) (se_bin opr_mul (ok_mul (m := false)) (se_ix ixr ok_ix (se_var (pv 0)) (se_bin op_mod ok_mod (se_var (pv 4)) (se_callB call_len ok_len (sa_cons (se_var (pv 0)) (sa_nil)) rfl T.n_len bt_len))) (se_int)) (se_bin opr_mul (ok_mul (m := false)) (se_int) (se_var (pv 4)))) (se_int)) (se_int)))
    (ss_one (ss_ret (se_bin op_mod ok_mod (se_bin op_mod ok_mod (se_bin op_mod ok_mod (se_bin op_pow ok_pow (se_var (pv 5)) (se_int)) (se_int)) (se_int)) (se_var (pv 2))))))))))
abbrev s__law_turned : Stmt := top 77
theorem sc__law_turned : FnScope ["_law_pair", "_law_side"] ["_law_pair", "_law_side"] (defScope s__law_turned) := ⟨rfl, rfl, rfl, by decide +kernel, rfl, by decide +kernel, by decide +kernel⟩
theorem ok__law_turned {f : Addr} {fd : FuncData} (F : Fun K "_law_turned" "_law_turned" s__law_turned f fd) (T : TX mg) : FnOk P w K mg base (L2.CX P w) 1 f fd ["_law_pair", "_law_side"] (spOf ⟨P, w, K⟩ xm 2 f__law_turned) :=
  fn_ok (N := ["_law_pair", "_law_side"]) (m := false) (b := b__law_turned) xm F sc__law_turned fun cdv A outer s H E W hr tk =>
    ss_one (ss_ret (se_if (st_cmp (opr_eq hr) ok_eq (se_var (pv 1)) (se_int)) (se_var (pv 0)) (se_revA (m := false) (se_var (pv 0)))))
abbrev s_is_level : Stmt := top 16
theorem sc_is_level : FnScope ["value"] ["value"] (defScope s_is_level) := ⟨rfl, rfl, rfl, by decide +kernel, rfl, by decide +kernel, by decide +kernel⟩
theorem ok_is_level {f : Addr} {fd : FuncData} (F : Fun K "is_level" "is_level" s_is_level f fd) (T : TX mg) {a_is_count : Addr} {fd_is_count : FuncData} (D_is_count : Df K mg "is_count" s_is_count ["value", "least", "most"] a_is_count fd_is_count) (G_is_count : FnOk P w K mg base (L2.CX P w) 1 a_is_count fd_is_count ["value", "least", "most"] (spOf ⟨P, w, K⟩ xm 3 f_is_count)) : FnOk P w K mg base (L2.CX P w) 2 f fd ["value"] (spOf ⟨P, w, K⟩ xm 1 f_is_level) :=
  fn_ok (N := ["value"]) (m := false) (b := b_is_level) xm F sc_is_level fun cdv A outer s H E W hr tk =>
    ss_cons (ss_if (st_bool (sw_or (st_not (st_val (se_callB callr_isa ok_isa (sa_cons (se_var (pv 0)) (sa_cons (se_ty T.n_tuple bt_tuple) (sa_nil))) rfl T.n_isinstance bt_isinstance))) (sw_or (st_cmp (opr_ne hr) ok_ne (se_callB call_len ok_len (sa_cons (se_var (pv 0)) (sa_nil)) rfl T.n_len bt_len) (se_int)) (sw_or1 (st_not (st_val (se_call (fn_pure G_is_count) rfl tk (hr.mono (by decide)) D_is_count.m D_is_count.F.kp D_is_count.b (sa_cons (se_ix ixr ok_ix (se_var (pv 0)) (se_int)) (sa_cons (se_int) (sa_cons (se_globI T.c_TARGET) (sa_nil)))) (len_cons (len_cons (len_cons len_nil)))))))))) (ss_one (ss_ret (se_bl))) (ss_nil))
    (ss_one (ss_ret (se_and (se_call (fn_pure G_is_count) rfl tk (hr.mono (by decide)) D_is_count.m D_is_count.F.kp D_is_count.b (sa_cons (se_ix ixr ok_ix (se_var (pv 0)) (se_int)) (sa_cons (se_int) (sa_cons (se_globI T.c_LEAD) (sa_nil)))) (len_cons (len_cons (len_cons len_nil)))) (se_one (se_or (se_cmp opr_is ok_is (se_ix ixr ok_ix (se_var (pv 0)) (se_int)) (se_non)) (se_one (se_call (fn_pure G_is_count) rfl tk (hr.mono (by decide)) D_is_count.m D_is_count.F.kp D_is_count.b (sa_cons (se_ix ixr ok_ix (se_var (pv 0)) (se_int)) (sa_cons (se_ix ixr ok_ix (se_var (pv 0)) (se_int)) (sa_cons (se_globI T.c_CAP) (sa_nil)))) (len_cons (len_cons (len_cons len_nil))))))))))
abbrev s_is_side : Stmt := top 19
theorem sc_is_side : FnScope ["value"] ["value"] (defScope s_is_side) := ⟨rfl, rfl, rfl, by decide +kernel, rfl, by decide +kernel, by decide +kernel⟩
theorem ok_is_side {f : Addr} {fd : FuncData} (F : Fun K "is_side" "is_side" s_is_side f fd) (T : TX mg) {a_is_count : Addr} {fd_is_count : FuncData} (D_is_count : Df K mg "is_count" s_is_count ["value", "least", "most"] a_is_count fd_is_count) (G_is_count : FnOk P w K mg base (L2.CX P w) 1 a_is_count fd_is_count ["value", "least", "most"] (spOf ⟨P, w, K⟩ xm 3 f_is_count)) : FnOk P w K mg base (L2.CX P w) 2 f fd ["value"] (spOf ⟨P, w, K⟩ xm 1 f_is_side) :=
  fn_ok (N := ["value"]) (m := false) (b := b_is_side) xm F sc_is_side fun cdv A outer s H E W hr tk =>
    ss_one (ss_ret (se_call (fn_pure G_is_count) rfl tk (hr.mono (by decide)) D_is_count.m D_is_count.F.kp D_is_count.b (sa_cons (se_var (pv 0)) (sa_cons (se_int) (sa_cons (se_int) (sa_nil)))) (len_cons (len_cons (len_cons len_nil)))))
abbrev s_after : Stmt := top 26
theorem sc_after : FnScope ["form", "score", "side", "pairs", "at", "level", "won"] ["form", "score", "side"] (defScope s_after) := ⟨rfl, rfl, rfl, by decide +kernel, rfl, by decide +kernel, by decide +kernel⟩
theorem ok_after {f : Addr} {fd : FuncData} (F : Fun K "after" "after" s_after f fd) (T : TX mg) {a_round_winner : Addr} {fd_round_winner : FuncData} (D_round_winner : Df K mg "round_winner" s_round_winner ["level", "pair"] a_round_winner fd_round_winner) (G_round_winner : FnOk P w K mg base (L2.CX P w) 1 a_round_winner fd_round_winner ["level", "pair"] (spOf ⟨P, w, K⟩ xm 2 f_round_winner)) {a_plus : Addr} {fd_plus : FuncData} (D_plus : Df K mg "plus" s_plus ["pair", "side"] a_plus fd_plus) (G_plus : FnOk P w K mg base (L2.CX P w) 1 a_plus fd_plus ["pair", "side"] (spOf ⟨P, w, K⟩ xm 2 f_plus)) : FnOk P w K mg base (L2.CX P w) 2 f fd ["form", "score", "side"] (spOf ⟨P, w, K⟩ xm 3 f_after) :=
  fn_ok (N := ["form", "score", "side", "pairs", "at", "level", "won"]) (m := false) (b := b_after) xm F sc_after fun cdv A outer s H E W hr tk =>
    ss_cons (ss_set (i := 3) sc_after.nd rfl (Or.inl rfl) (se_callTy call_list_of (ok_list (m := true)) (sa_cons (se_var (pv 1)) (sa_nil)) rfl T.n_list bt_list))
    (ss_cons (ss_for (passes_of rfl) rfl (si_enum (sa_cons (se_var (pv 0)) (sa_nil)) rfl T.n_enumerate) (sg_tup (n := 2) (sgs_cons (pg_name (i := 4) sc_after.nd rfl (Or.inl rfl)) (sgs_cons (pg_name (i := 5) sc_after.nd rfl (Or.inl rfl)) (sgs_nil))) rfl rfl) (ss_cons (ss_setIx (se_call (fn_pure G_plus) rfl tk (hr.mono (by decide)) D_plus.m D_plus.F.kp D_plus.b (sa_cons (se_ix ixr ok_ix (se_var (pv 3)) (se_var (pv 4))) (sa_cons (se_var (pv 2)) (sa_nil))) (len_cons (len_cons len_nil))) (se_var (pv 3)) (se_var (pv 4)))
    (ss_cons (ss_set (i := 6) sc_after.nd rfl (Or.inl rfl) (se_call (fn_pure G_round_winner) rfl tk (hr.mono (by decide)) D_round_winner.m D_round_winner.F.kp D_round_winner.b (sa_cons (se_var (pv 5)) (sa_cons (se_ix ixr ok_ix (se_var (pv 3)) (se_var (pv 4))) (sa_nil))) (len_cons (len_cons len_nil))))
    (ss_cons (ss_if (st_cmp opr_is ok_is (se_var (pv 6)) (se_non)) (ss_one (ss_break)) (ss_nil))
    (ss_cons (ss_if (st_cmp (opr_eq hr) ok_eq (se_bin opr_add (ok_add (m := false)) (se_var (pv 4)) (se_int)) (se_callB call_len ok_len (sa_cons (se_var (pv 0)) (sa_nil)) rfl T.n_len bt_len)) (ss_one (ss_ret (se_tup (sa_cons (se_callTy call_tuple_of ok_tuple (sa_cons (se_var (pv 3)) (sa_nil)) rfl T.n_tuple bt_tuple) (sa_cons (se_var (pv 6)) (sa_nil)))))) (ss_nil))
    (ss_one (ss_setIx (se_tup (sa_cons (se_int) (sa_cons (se_int) (sa_nil)))) (se_var (pv 3)) (se_var (pv 4)))))))))
    (ss_one (ss_ret (se_tup (sa_cons (se_callTy call_tuple_of ok_tuple (sa_cons (se_var (pv 3)) (sa_nil)) rfl T.n_tuple bt_tuple) (sa_cons (se_non) (sa_nil)))))))
abbrev s_rounds : Stmt := top 41
theorem sc_rounds : FnScope ["level", "most", "paths", "left", "found", "number", "pair", "side", "reached"] ["level"] (defScope s_rounds) := ⟨rfl, rfl, rfl, by decide +kernel, rfl, by decide +kernel, by decide +kernel⟩
theorem ok_rounds {f : Addr} {fd : FuncData} (F : Fun K "rounds" "rounds" s_rounds f fd) (T : TX mg) {a_round_winner : Addr} {fd_round_winner : FuncData} (D_round_winner : Df K mg "round_winner" s_round_winner ["level", "pair"] a_round_winner fd_round_winner) (G_round_winner : FnOk P w K mg base (L2.CX P w) 1 a_round_winner fd_round_winner ["level", "pair"] (spOf ⟨P, w, K⟩ xm 2 f_round_winner)) {a_plus : Addr} {fd_plus : FuncData} (D_plus : Df K mg "plus" s_plus ["pair", "side"] a_plus fd_plus) (G_plus : FnOk P w K mg base (L2.CX P w) 1 a_plus fd_plus ["pair", "side"] (spOf ⟨P, w, K⟩ xm 2 f_plus)) : FnOk P w K mg base (L2.CX P w) 2 f fd ["level"] (spOf ⟨P, w, K⟩ xm 1 f_rounds) :=
  fn_ok (N := ["level", "most", "paths", "left", "found", "number", "pair", "side", "reached"]) (m := false) (b := b_rounds) xm F sc_rounds fun cdv A outer s H E W hr tk =>
    ss_cons (ss_set (i := 1) sc_rounds.nd rfl (Or.inl rfl) (se_if (st_cmp opr_is ok_is (se_ix ixr ok_ix (se_var (pv 0)) (se_int)) (se_non)) (se_bin opr_add (ok_add (m := false)) (se_ix ixr ok_ix (se_var (pv 0)) (se_int)) (se_ix ixr ok_ix (se_var (pv 0)) (se_int))) (se_ix ixr ok_ix (se_var (pv 0)) (se_int))))
    (ss_cons (ss_par2s (i := 2) (j := 3) rfl sc_rounds.nd (sa_cons (se_dct1 (hu9 hr) (se_tup (sa_cons (se_int) (sa_cons (se_int) (sa_nil)))) (se_lst (m := false) (sa_nil))) (sa_cons (se_lst (m := true) (sa_cons (se_tup (sa_cons (se_int) (sa_cons (se_int) (sa_nil)))) (sa_nil))) (sa_nil))) (by decide))
    (ss_cons (ss_set (i := 4) sc_rounds.nd rfl (Or.inl rfl) (se_lst (m := true) (sa_nil)))
    (ss_cons (ss_for (passes_of rfl) rfl (si_range1 (sa_cons (se_bin opr_mul (ok_mul (m := false)) (se_bin opr_add (ok_add (m := false)) (se_var (pv 1)) (se_int)) (se_bin opr_add (ok_add (m := false)) (se_var (pv 1)) (se_int))) (sa_nil)) rfl T.n_range) (sg_name (pg_name (i := 5) sc_rounds.nd rfl (Or.inl rfl))) (ss_cons (ss_if (st_cmp (opr_eq hr) ok_eq (se_var (pv 5)) (se_callB call_len ok_len (sa_cons (se_var (pv 3)) (sa_nil)) rfl T.n_len bt_len)) (ss_one (ss_break)) (ss_nil))
    (ss_cons (ss_set (i := 6) sc_rounds.nd rfl (Or.inl rfl) (se_ix ixr ok_ix (se_var (pv 3)) (se_var (pv 5))))
    (ss_one (ss_for (passes_of rfl) rfl (si_seq (se_tup (sa_cons (se_int) (sa_cons (se_int) (sa_nil))))) (sg_name (pg_name (i := 7) sc_rounds.nd rfl (Or.inl rfl))) (ss_cons (ss_set (i := 8) sc_rounds.nd rfl (Or.inl rfl) (se_call (fn_pure G_plus) rfl tk (hr.mono (by decide)) D_plus.m D_plus.F.kp D_plus.b (sa_cons (se_var (pv 6)) (sa_cons (se_var (pv 7)) (sa_nil))) (len_cons (len_cons len_nil))))
    (ss_one (ss_if (st_bool (sw_and (st_cmp op_le ok_cmpI (se_callB (callr_max rfl hr) ok_max (sa_cons (se_var (pv 8)) (sa_nil)) rfl T.n_max bt_max) (se_var (pv 1))) (sw_and1 (st_cmp (op_ninX (hu9 hr)) ok_ninX (se_var (pv 8)) (se_var (pv 2)))))) (ss_cons (ss_setX (hu9 hr) (se_bin opr_add (ok_add (m := false)) (se_ix (ix_x (hu9 hr)) ok_getX (se_var (pv 2)) (se_var (pv 6))) (se_lst (m := false) (sa_cons (se_var (pv 7)) (sa_nil)))) (se_var (pv 2)) (se_var (pv 8)))
    (ss_one (ss_if (st_cmp opr_is ok_is (se_call (fn_pure G_round_winner) rfl tk (hr.mono (by decide)) D_round_winner.m D_round_winner.F.kp D_round_winner.b (sa_cons (se_var (pv 0)) (sa_cons (se_var (pv 8)) (sa_nil))) (len_cons (len_cons len_nil))) (se_non)) (ss_one (ss_expr (se_append (se_var (pv 3)) (sa_cons (se_var (pv 8)) (sa_nil))))) (ss_one (ss_expr (se_append (se_var (pv 4)) (sa_cons (se_ix (ix_x (hu9 hr)) ok_getX (se_var (pv 2)) (se_var (pv 8))) (sa_nil)))))))) (ss_nil)))))))))
    (ss_one (ss_ret (se_var (pv 4)))))))
abbrev s_times : Stmt := top 53
theorem sc_times : FnScope ["one", "two"] ["one", "two"] (defScope s_times) := ⟨rfl, rfl, rfl, by decide +kernel, rfl, by decide +kernel, by decide +kernel⟩
theorem ok_times {f : Addr} {fd : FuncData} (F : Fun K "times" "times" s_times f fd) (T : TX mg) {a_lowest : Addr} {fd_lowest : FuncData} (D_lowest : Df K mg "lowest" s_lowest ["numerator", "denominator"] a_lowest fd_lowest) (G_lowest : FnOk P w K mg base (L2.CX P w) 1 a_lowest fd_lowest ["numerator", "denominator"] (spOf ⟨P, w, K⟩ xm 2 f_lowest)) : FnOk P w K mg base (L2.CX P w) 2 f fd ["one", "two"] (spOf ⟨P, w, K⟩ xm 2 f_times) :=
  fn_ok (N := ["one", "two"]) (m := false) (b := b_times) xm F sc_times fun cdv A outer s H E W hr tk =>
    ss_one (ss_ret (se_call (fn_pure G_lowest) rfl tk (hr.mono (by decide)) D_lowest.m D_lowest.F.kp D_lowest.b (sa_cons (se_bin opr_mul (ok_mul (m := false)) (se_ix ixr ok_ix (se_var (pv 0)) (se_int)) (se_ix ixr ok_ix (se_var (pv 1)) (se_int))) (sa_cons (se_bin opr_mul (ok_mul (m := false)) (se_ix ixr ok_ix (se_var (pv 0)) (se_int)) (se_ix ixr ok_ix (se_var (pv 1)) (se_int))) (sa_nil))) (len_cons (len_cons len_nil))))
abbrev s_added : Stmt := top 54
theorem sc_added : FnScope ["one", "two"] ["one", "two"] (defScope s_added) := ⟨rfl, rfl, rfl, by decide +kernel, rfl, by decide +kernel, by decide +kernel⟩
theorem ok_added {f : Addr} {fd : FuncData} (F : Fun K "added" "added" s_added f fd) (T : TX mg) {a_lowest : Addr} {fd_lowest : FuncData} (D_lowest : Df K mg "lowest" s_lowest ["numerator", "denominator"] a_lowest fd_lowest) (G_lowest : FnOk P w K mg base (L2.CX P w) 1 a_lowest fd_lowest ["numerator", "denominator"] (spOf ⟨P, w, K⟩ xm 2 f_lowest)) : FnOk P w K mg base (L2.CX P w) 2 f fd ["one", "two"] (spOf ⟨P, w, K⟩ xm 2 f_added) :=
  fn_ok (N := ["one", "two"]) (m := false) (b := b_added) xm F sc_added fun cdv A outer s H E W hr tk =>
    ss_one (ss_ret (se_call (fn_pure G_lowest) rfl tk (hr.mono (by decide)) D_lowest.m D_lowest.F.kp D_lowest.b (sa_cons (se_bin opr_add (ok_add (m := false)) (se_bin opr_mul (ok_mul (m := false)) (se_ix ixr ok_ix (se_var (pv 0)) (se_int)) (se_ix ixr ok_ix (se_var (pv 1)) (se_int))) (se_bin opr_mul (ok_mul (m := false)) (se_ix ixr ok_ix (se_var (pv 1)) (se_int)) (se_ix ixr ok_ix (se_var (pv 0)) (se_int)))) (sa_cons (se_bin opr_mul (ok_mul (m := false)) (se_ix ixr ok_ix (se_var (pv 0)) (se_int)) (se_ix ixr ok_ix (se_var (pv 1)) (se_int))) (sa_nil))) (len_cons (len_cons len_nil))))
abbrev s_ends_of : Stmt := top 57
theorem sc_ends_of : FnScope ["level", "ways", "ends", "later", "pair", "side", "reached", "is_end", "book"] ["level"] (defScope s_ends_of) := ⟨rfl, rfl, rfl, by decide +kernel, rfl, by decide +kernel, by decide +kernel⟩
theorem ok_ends_of {f : Addr} {fd : FuncData} (F : Fun K "ends_of" "ends_of" s_ends_of f fd) (T : TX mg) {a_round_winner : Addr} {fd_round_winner : FuncData} (D_round_winner : Df K mg "round_winner" s_round_winner ["level", "pair"] a_round_winner fd_round_winner) (G_round_winner : FnOk P w K mg base (L2.CX P w) 1 a_round_winner fd_round_winner ["level", "pair"] (spOf ⟨P, w, K⟩ xm 2 f_round_winner)) {a_plus : Addr} {fd_plus : FuncData} (D_plus : Df K mg "plus" s_plus ["pair", "side"] a_plus fd_plus) (G_plus : FnOk P w K mg base (L2.CX P w) 1 a_plus fd_plus ["pair", "side"] (spOf ⟨P, w, K⟩ xm 2 f_plus)) : FnOk P w K mg base (L2.CX P w) 2 f fd ["level"] (spOf ⟨P, w, K⟩ xm 1 f_ends_of) :=
  fn_ok (N := ["level", "ways", "ends", "later", "pair", "side", "reached", "is_end", "book"]) (m := true) (b := b_ends_of) xm F sc_ends_of fun cdv A outer s H E W hr tk =>
    ss_cons (ss_par2s (i := 1) (j := 2) rfl sc_ends_of.nd (sa_cons (se_dct1 (hu9 hr) (se_tup (sa_cons (se_int) (sa_cons (se_int) (sa_nil)))) (se_int)) (sa_cons (se_dct0) (sa_nil))) (by decide))
    (ss_cons (ss_while 100000 (passes_of rfl) (st_neE (hu0 hr) (se_var (pv 1))) (ss_cons (ss_set (i := 3) sc_ends_of.nd rfl (Or.inl rfl) (se_dct0))
    (ss_cons (ss_lock (ss_for (passes_of rfl) rfl (si_keysD (se_var (pv 1))) (sg_name (pg_name (i := 4) sc_ends_of.nd rfl (Or.inl rfl))) (ss_one (ss_for (passes_of rfl) rfl (si_seq (se_tup (sa_cons (se_int) (sa_cons (se_int) (sa_nil))))) (sg_name (pg_name (i := 5) sc_ends_of.nd rfl (Or.inl rfl))) (ss_cons (ss_set (i := 6) sc_ends_of.nd rfl (Or.inl rfl) (se_call (fn_pure G_plus) rfl tk (hr.mono (by decide)) D_plus.m D_plus.F.kp D_plus.b (sa_cons (se_var (pv 4)) (sa_cons (se_var (pv 5)) (sa_nil))) (len_cons (len_cons len_nil))))
    (ss_cons (ss_set (i := 7) sc_ends_of.nd rfl (Or.inl rfl) (se_or (se_cmp opr_isN ok_isN (se_call (fn_pure G_round_winner) rfl tk (hr.mono (by decide)) D_round_winner.m D_round_winner.F.kp D_round_winner.b (sa_cons (se_var (pv 0)) (sa_cons (se_var (pv 6)) (sa_nil))) (len_cons (len_cons len_nil))) (se_non)) (se_one (se_and (se_cmp opr_is ok_is (se_ix ixr ok_ix (se_var (pv 0)) (se_int)) (se_non)) (se_one (se_cmp op_ge ok_cmpI (se_callB (callr_min rfl hr) ok_min (sa_cons (se_var (pv 6)) (sa_nil)) rfl T.n_min bt_min) (se_ix ixr ok_ix (se_var (pv 0)) (se_int))))))))
    (ss_cons (ss_set (i := 8) sc_ends_of.nd rfl (Or.inl rfl) (se_if (st_val (se_var (pv 7))) (se_var (pv 2)) (se_var (pv 3))))
    (ss_one (ss_setX (hu9 hr) (se_bin opr_add (ok_add (m := false)) (se_getX (hu9 hr) (se_var (pv 8)) (se_var (pv 6)) (se_int) ⟨rfl, rfl, rfl, rfl⟩) (se_ix (ix_x (hu9 hr)) ok_getX (se_var (pv 1)) (se_var (pv 4)))) (se_var (pv 8)) (se_var (pv 6)))))))))))
    (ss_one (ss_set (i := 1) sc_ends_of.nd rfl (Or.inl rfl) (se_var (pv 3)))))))
    (ss_one (ss_ret (se_var (pv 2)))))
abbrev s_need_chance : Stmt := top 59
theorem sc_need_chance : FnScope ["value"] ["value"] (defScope s_need_chance) := ⟨rfl, rfl, rfl, by decide +kernel, rfl, by decide +kernel, by decide +kernel⟩
theorem ok_need_chance {f : Addr} {fd : FuncData} (F : Fun K "need_chance" "need_chance" s_need_chance f fd) (T : TX mg) {a_is_count : Addr} {fd_is_count : FuncData} (D_is_count : Df K mg "is_count" s_is_count ["value", "least", "most"] a_is_count fd_is_count) (G_is_count : FnOk P w K mg base (L2.CX P w) 1 a_is_count fd_is_count ["value", "least", "most"] (spOf ⟨P, w, K⟩ xm 3 f_is_count)) : FnOk P w K mg base (L2.CX P w) 2 f fd ["value"] (spOf ⟨P, w, K⟩ xm 1 f_need_chance) :=
  fn_ok (N := ["value"]) (m := false) (b := b_need_chance) xm F sc_need_chance fun cdv A outer s H E W hr tk =>
    ss_cons (ss_if (st_bool (sw_or (st_not (st_val (se_callB callr_isa ok_isa (sa_cons (se_var (pv 0)) (sa_cons (se_ty T.n_tuple bt_tuple) (sa_nil))) rfl T.n_isinstance bt_isinstance))) (sw_or (st_cmp (opr_ne hr) ok_ne (se_callB call_len ok_len (sa_cons (se_var (pv 0)) (sa_nil)) rfl T.n_len bt_len) (se_int)) (sw_or1 (st_not (st_val (se_call (fn_pure G_is_count) rfl tk (hr.mono (by decide)) D_is_count.m D_is_count.F.kp D_is_count.b (sa_cons (se_ix ixr ok_ix (se_var (pv 0)) (se_int)) (sa_cons (se_int) (sa_cons (se_int) (sa_nil)))) (len_cons (len_cons (len_cons len_nil)))))))))) (ss_one (ss_bad)) (ss_nil))
    (ss_one (ss_if (st_not (st_val (se_call (fn_pure G_is_count) rfl tk (hr.mono (by decide)) D_is_count.m D_is_count.F.kp D_is_count.b (sa_cons (se_ix ixr ok_ix (se_var (pv 0)) (se_int)) (sa_cons (se_int) (sa_cons (se_ix ixr ok_ix (se_var (pv 0)) (se_int)) (sa_nil)))) (len_cons (len_cons (len_cons len_nil)))))) (ss_one (ss_bad)) (ss_nil)))
abbrev s_parsed_level : Stmt := top 67
theorem sc_parsed_level : FnScope ["word", "target", "slash", "rest", "lead", "hyphen", "cap"] ["word"] (defScope s_parsed_level) := ⟨rfl, rfl, rfl, by decide +kernel, rfl, by decide +kernel, by decide +kernel⟩
theorem ok_parsed_level {f : Addr} {fd : FuncData} (F : Fun K "parsed_level" "parsed_level" s_parsed_level f fd) (T : TX mg) {a_number_of : Addr} {fd_number_of : FuncData} (D_number_of : Df K mg "number_of" s_number_of ["text"] a_number_of fd_number_of) (G_number_of : FnOk P w K mg base (L2.CX P w) 1 a_number_of fd_number_of ["text"] (spOf ⟨P, w, K⟩ xm 1 f_number_of)) : FnOk P w K mg base (L2.CX P w) 2 f fd ["word"] (spOf ⟨P, w, K⟩ xm 1 f_parsed_level) :=
  fn_ok (N := ["word", "target", "slash", "rest", "lead", "hyphen", "cap"]) (m := false) (b := b_parsed_level) xm F sc_parsed_level fun cdv A outer s H E W hr tk =>
    ss_cons (ss_asgT (sg_tup (n := 3) (sgs_cons (pg_name (i := 1) sc_parsed_level.nd rfl (Or.inl rfl)) (sgs_cons (pg_name (i := 2) sc_parsed_level.nd rfl (Or.inl rfl)) (sgs_cons (pg_name (i := 3) sc_parsed_level.nd rfl (Or.inl rfl)) (sgs_nil)))) rfl rfl) (se_partition (se_var (pv 0)) (sa_cons (se_str) (sa_nil))))
    (ss_cons (ss_asgT (sg_tup (n := 3) (sgs_cons (pg_name (i := 4) sc_parsed_level.nd rfl (Or.inl rfl)) (sgs_cons (pg_name (i := 5) sc_parsed_level.nd rfl (Or.inl rfl)) (sgs_cons (pg_name (i := 6) sc_parsed_level.nd rfl (Or.inl rfl)) (sgs_nil)))) rfl rfl) (se_partition (se_var (pv 3)) (sa_cons (se_str) (sa_nil))))
    (ss_one (ss_ret (se_tup (sa_cons (se_call (fn_pure G_number_of) rfl tk (hr.mono (by decide)) D_number_of.m D_number_of.F.kp D_number_of.b (sa_cons (se_var (pv 1)) (sa_nil)) (len_cons len_nil)) (sa_cons (se_call (fn_pure G_number_of) rfl tk (hr.mono (by decide)) D_number_of.m D_number_of.F.kp D_number_of.b (sa_cons (se_var (pv 4)) (sa_nil)) (len_cons len_nil)) (sa_cons (se_if (st_cmp (opr_ne hr) ok_ne (se_var (pv 5)) (se_str)) (se_call (fn_pure G_number_of) rfl tk (hr.mono (by decide)) D_number_of.m D_number_of.F.kp D_number_of.b (sa_cons (se_var (pv 6)) (sa_nil)) (len_cons len_nil)) (se_non)) (sa_nil))))))))
abbrev s_is_form : Stmt := top 17
theorem sc_is_form : FnScope ["value", "level"] ["value"] (defScope s_is_form) := ⟨rfl, rfl, rfl, by decide +kernel, rfl, by decide +kernel, by decide +kernel⟩
theorem ok_is_form {f : Addr} {fd : FuncData} (F : Fun K "is_form" "is_form" s_is_form f fd) (T : TX mg) {a_is_level : Addr} {fd_is_level : FuncData} (D_is_level : Df K mg "is_level" s_is_level ["value"] a_is_level fd_is_level) (G_is_level : FnOk P w K mg base (L2.CX P w) 2 a_is_level fd_is_level ["value"] (spOf ⟨P, w, K⟩ xm 1 f_is_level)) : FnOk P w K mg base (L2.CX P w) 3 f fd ["value"] (spOf ⟨P, w, K⟩ xm 1 f_is_form) :=
  fn_ok (N := ["value", "level"]) (m := false) (b := b_is_form) xm F sc_is_form fun cdv A outer s H E W hr tk =>
    ss_one (ss_ret (se_and (se_callB callr_isa ok_isa (sa_cons (se_var (pv 0)) (sa_cons (se_ty T.n_tuple bt_tuple) (sa_nil))) rfl T.n_isinstance bt_isinstance) (se_and (se_chain op_le op_le (se_int) (se_callB call_len ok_len (sa_cons (se_var (pv 0)) (sa_nil)) rfl T.n_len bt_len) (se_globI T.c_LEVELS)) (se_one (se_callB (cr_all rfl) ok_all (sa_cons (se_lc (m := false) (own := [("level", 1)]) rfl sc_is_form.nd (blkOk_by (N := ["value", "level"]) (sc := defScope s_is_form) (by decide +kernel)) (by decide) (si_seq (se_var (pv 0))) (fun _ _ _ _ _ => pg_name (i := 1) sc_is_form.nd rfl (Or.inl rfl)) tgk_name (fun _ _ _ _ _ => spt_nil) (fun _ _ _ _ _ => se_call (fn_pure G_is_level) rfl takes0 (hr.mono (by decide)) D_is_level.m D_is_level.F.kp D_is_level.b (sa_cons (se_var (pv 1)) (sa_nil)) (len_cons len_nil))) (sa_nil)) rfl T.n_all bt_all)))))
abbrev s_need_side : Stmt := top 20
theorem sc_need_side : FnScope ["value"] ["value"] (defScope s_need_side) := ⟨rfl, rfl, rfl, by decide +kernel, rfl, by decide +kernel, by decide +kernel⟩
theorem ok_need_side {f : Addr} {fd : FuncData} (F : Fun K "need_side" "need_side" s_need_side f fd) (T : TX mg) {a_is_side : Addr} {fd_is_side : FuncData} (D_is_side : Df K mg "is_side" s_is_side ["value"] a_is_side fd_is_side) (G_is_side : FnOk P w K mg base (L2.CX P w) 2 a_is_side fd_is_side ["value"] (spOf ⟨P, w, K⟩ xm 1 f_is_side)) : FnOk P w K mg base (L2.CX P w) 3 f fd ["value"] (spOf ⟨P, w, K⟩ xm 1 f_need_side) :=
  fn_ok (N := ["value"]) (m := false) (b := b_need_side) xm F sc_need_side fun cdv A outer s H E W hr tk =>
    ss_one (ss_if (st_not (st_val (se_call (fn_pure G_is_side) rfl tk (hr.mono (by decide)) D_is_side.m D_is_side.F.kp D_is_side.b (sa_cons (se_var (pv 0)) (sa_nil)) (len_cons len_nil)))) (ss_one (ss_bad)) (ss_nil))
abbrev s_need_row : Stmt := top 21
theorem sc_need_row : FnScope ["value", "side"] ["value"] (defScope s_need_row) := ⟨rfl, rfl, rfl, by decide +kernel, rfl, by decide +kernel, by decide +kernel⟩
theorem ok_need_row {f : Addr} {fd : FuncData} (F : Fun K "need_row" "need_row" s_need_row f fd) (T : TX mg) {a_is_side : Addr} {fd_is_side : FuncData} (D_is_side : Df K mg "is_side" s_is_side ["value"] a_is_side fd_is_side) (G_is_side : FnOk P w K mg base (L2.CX P w) 2 a_is_side fd_is_side ["value"] (spOf ⟨P, w, K⟩ xm 1 f_is_side)) : FnOk P w K mg base (L2.CX P w) 3 f fd ["value"] (spOf ⟨P, w, K⟩ xm 1 f_need_row) :=
  fn_ok (N := ["value", "side"]) (m := false) (b := b_need_row) xm F sc_need_row fun cdv A outer s H E W hr tk =>
    ss_one (ss_if (st_bool (sw_or (st_not (st_val (se_callB callr_isa ok_isa (sa_cons (se_var (pv 0)) (sa_cons (se_tup (sa_cons (se_ty T.n_list bt_list) (sa_cons (se_ty T.n_tuple bt_tuple) (sa_nil)))) (sa_nil))) rfl T.n_isinstance bt_isinstance))) (sw_or (st_cmp op_gt ok_cmpI (se_callB call_len ok_len (sa_cons (se_var (pv 0)) (sa_nil)) rfl T.n_len bt_len) (se_globI T.c_POINTS)) (sw_or1 (st_not (st_val (se_callB (cr_all rfl) ok_all (sa_cons (se_lc (m := false) (own := [("side", 1)]) rfl sc_need_row.nd (blkOk_by (N := ["value", "side"]) (sc := defScope s_need_row) (by decide +kernel)) (by decide) (si_seq (se_var (pv 0))) (fun _ _ _ _ _ => pg_name (i := 1) sc_need_row.nd rfl (Or.inl rfl)) tgk_name (fun _ _ _ _ _ => spt_nil) (fun _ _ _ _ _ => se_call (fn_pure G_is_side) rfl takes0 (hr.mono (by decide)) D_is_side.m D_is_side.F.kp D_is_side.b (sa_cons (se_var (pv 1)) (sa_nil)) (len_cons len_nil))) (sa_nil)) rfl T.n_all bt_all))))))) (ss_one (ss_bad)) (ss_nil))
abbrev s_played : Stmt := top 27
theorem sc_played : FnScope ["form", "row", "score", "won", "many", "side"] ["form", "row"] (defScope s_played) := ⟨rfl, rfl, rfl, by decide +kernel, rfl, by decide +kernel, by decide +kernel⟩
theorem ok_played {f : Addr} {fd : FuncData} (F : Fun K "played" "played" s_played f fd) (T : TX mg) {a_start_of : Addr} {fd_start_of : FuncData} (D_start_of : Df K mg "start_of" s_start_of ["form"] a_start_of fd_start_of) (G_start_of : FnOk P w K mg base (L2.CX P w) 1 a_start_of fd_start_of ["form"] (spOf ⟨P, w, K⟩ xm 1 f_start_of)) {a_after : Addr} {fd_after : FuncData} (D_after : Df K mg "after" s_after ["form", "score", "side"] a_after fd_after) (G_after : FnOk P w K mg base (L2.CX P w) 2 a_after fd_after ["form", "score", "side"] (spOf ⟨P, w, K⟩ xm 3 f_after)) : FnOk P w K mg base (L2.CX P w) 3 f fd ["form", "row"] (spOf ⟨P, w, K⟩ xm 2 f_played) :=
  fn_ok (N := ["form", "row", "score", "won", "many", "side"]) (m := false) (b := b_played) xm F sc_played fun cdv A outer s H E W hr tk =>
    ss_cons (ss_par3s (i := 2) (j := 3) (l := 4) rfl sc_played.nd (sa_cons (se_call (fn_pure G_start_of) rfl tk (hr.mono (by decide)) D_start_of.m D_start_of.F.kp D_start_of.b (sa_cons (se_var (pv 0)) (sa_nil)) (len_cons len_nil)) (sa_cons (se_non) (sa_cons (se_int) (sa_nil)))) (by decide) (by decide) (by decide))
    (ss_cons (ss_forD (passes_of rfl) rfl (se_var (pv 1)) (sg_name (pg_name (i := 5) sc_played.nd rfl (Or.inl rfl))) (ss_one (ss_if (st_cmp opr_is ok_is (se_var (pv 3)) (se_non)) (ss_cons (ss_asgT (sg_tup (n := 2) (sgs_cons (pg_name (i := 2) sc_played.nd rfl (Or.inl rfl)) (sgs_cons (pg_name (i := 3) sc_played.nd rfl (Or.inl rfl)) (sgs_nil))) rfl rfl) (se_call (fn_pure G_after) rfl tk (hr.mono (by decide)) D_after.m D_after.F.kp D_after.b (sa_cons (se_var (pv 0)) (sa_cons (se_var (pv 2)) (sa_cons (se_var (pv 5)) (sa_nil)))) (len_cons (len_cons (len_cons len_nil)))))
    (ss_one (ss_aug (i := 4) sc_played.nd rfl (Or.inl rfl) iop_add ok_addI (se_int)))) (ss_nil))))
    (ss_one (ss_ret (se_tup (sa_cons (se_var (pv 2)) (sa_cons (se_var (pv 3)) (sa_cons (se_var (pv 4)) (sa_nil))))))))
abbrev s_needs_at : Stmt := top 32
theorem sc_needs_at : FnScope ["form", "now", "won", "side", "many"] ["form", "now", "won", "side"] (defScope s_needs_at) := ⟨rfl, rfl, rfl, by decide +kernel, rfl, by decide +kernel, by decide +kernel⟩
theorem ok_needs_at {f : Addr} {fd : FuncData} (F : Fun K "needs_at" "needs_at" s_needs_at f fd) (T : TX mg) {a_after : Addr} {fd_after : FuncData} (D_after : Df K mg "after" s_after ["form", "score", "side"] a_after fd_after) (G_after : FnOk P w K mg base (L2.CX P w) 2 a_after fd_after ["form", "score", "side"] (spOf ⟨P, w, K⟩ xm 3 f_after)) : FnOk P w K mg base (L2.CX P w) 3 f fd ["form", "now", "won", "side"] (spOf ⟨P, w, K⟩ xm 4 f_needs_at) :=
  fn_ok (N := ["form", "now", "won", "side", "many"]) (m := false) (b := b_needs_at) xm F sc_needs_at fun cdv A outer s H E W hr tk =>
    ss_cons (ss_if (st_cmp opr_isN ok_isN (se_var (pv 2)) (se_non)) (ss_one (ss_ret (se_if (st_cmp (opr_eq hr) ok_eq (se_var (pv 2)) (se_var (pv 3))) (se_int) (se_non)))) (ss_nil))
    (ss_cons (ss_set (i := 4) sc_needs_at.nd rfl (Or.inl rfl) (se_int))
    (ss_cons (ss_while 100000 (passes_of rfl) (st_cmp opr_is ok_is (se_var (pv 2)) (se_non)) (ss_cons (ss_asgT (sg_tup (n := 2) (sgs_cons (pg_name (i := 1) sc_needs_at.nd rfl (Or.inl rfl)) (sgs_cons (pg_name (i := 2) sc_needs_at.nd rfl (Or.inl rfl)) (sgs_nil))) rfl rfl) (se_call (fn_pure G_after) rfl tk (hr.mono (by decide)) D_after.m D_after.F.kp D_after.b (sa_cons (se_var (pv 0)) (sa_cons (se_var (pv 1)) (sa_cons (se_var (pv 3)) (sa_nil)))) (len_cons (len_cons (len_cons len_nil)))))
    (ss_one (ss_aug (i := 4) sc_needs_at.nd rfl (Or.inl rfl) iop_add ok_addI (se_int)))))
    (ss_one (ss_ret (se_var (pv 4))))))
abbrev s_with_losses : Stmt := top 35
theorem sc_with_losses : FnScope ["form", "scores", "seen", "side", "found", "left", "now", "reached", "won"] ["form", "scores", "seen", "side"] (defScope s_with_losses) := ⟨rfl, rfl, rfl, by decide +kernel, rfl, by decide +kernel, by decide +kernel⟩
theorem ok_with_losses {f : Addr} {fd : FuncData} (F : Fun K "with_losses" "with_losses" s_with_losses f fd) (T : TX mg) {a_after : Addr} {fd_after : FuncData} (D_after : Df K mg "after" s_after ["form", "score", "side"] a_after fd_after) (G_after : FnOk P w K mg base (L2.CX P w) 2 a_after fd_after ["form", "score", "side"] (spOf ⟨P, w, K⟩ xm 3 f_after)) {a_settled : Addr} {fd_settled : FuncData} (D_settled : Df K mg "settled" s_settled ["form", "now"] a_settled fd_settled) (G_settled : FnOk P w K mg base (L2.CX P w) 1 a_settled fd_settled ["form", "now"] (spOf ⟨P, w, K⟩ xm 2 f_settled)) : FnOk P w K mg base (L2.CX P w) 3 f fd ["form", "scores", "seen", "side"] (spOf ⟨P, w, K⟩ xm 4 f_with_losses) :=
  fn_ok (N := ["form", "scores", "seen", "side", "found", "left", "now", "reached", "won"]) (m := false) (b := b_with_losses) xm F sc_with_losses fun cdv A outer s H E W hr tk =>
    ss_cons (ss_par2s (i := 4) (j := 5) rfl sc_with_losses.nd (sa_cons (se_lst (m := true) (sa_nil)) (sa_cons (se_callTy call_list_of (ok_list (m := true)) (sa_cons (se_var (pv 1)) (sa_nil)) rfl T.n_list bt_list) (sa_nil))) (by decide))
    (ss_cons (ss_while 100000 (passes_of rfl) (st_cmp (opr_ne hr) ok_ne (se_var (pv 5)) (se_lst (m := false) (sa_nil))) (ss_cons (ss_set (i := 6) sc_with_losses.nd rfl (Or.inl rfl) (se_pop (se_var (pv 5))))
    (ss_one (ss_if (st_cmp (op_ninX (hu9 hr)) ok_ninX (se_var (pv 6)) (se_var (pv 2))) (ss_cons (ss_setX (hu9 hr) (se_bl) (se_var (pv 2)) (se_var (pv 6)))
    (ss_cons (ss_expr (se_append (se_var (pv 4)) (sa_cons (se_var (pv 6)) (sa_nil))))
    (ss_cons (ss_asgT (sg_tup (n := 2) (sgs_cons (pg_name (i := 7) sc_with_losses.nd rfl (Or.inl rfl)) (sgs_cons (pg_name (i := 8) sc_with_losses.nd rfl (Or.inl rfl)) (sgs_nil))) rfl rfl) (se_call (fn_pure G_after) rfl tk (hr.mono (by decide)) D_after.m D_after.F.kp D_after.b (sa_cons (se_var (pv 0)) (sa_cons (se_var (pv 6)) (sa_cons (se_bin op_sub ok_sub (se_int) (se_var (pv 3))) (sa_nil)))) (len_cons (len_cons (len_cons len_nil)))))
    (ss_one (ss_if (st_cmp opr_is ok_is (se_var (pv 8)) (se_non)) (ss_one (ss_expr (se_append (se_var (pv 5)) (sa_cons (se_call (fn_pure G_settled) rfl tk (hr.mono (by decide)) D_settled.m D_settled.F.kp D_settled.b (sa_cons (se_var (pv 0)) (sa_cons (se_var (pv 7)) (sa_nil))) (len_cons (len_cons len_nil))) (sa_nil))))) (ss_nil)))))) (ss_nil)))))
    (ss_one (ss_ret (se_var (pv 4)))))
abbrev s_most_units : Stmt := top 40
theorem sc_most_units : FnScope ["level", "path"] ["level"] (defScope s_most_units) := ⟨rfl, rfl, rfl, by decide +kernel, rfl, by decide +kernel, by decide +kernel⟩
theorem ok_most_units {f : Addr} {fd : FuncData} (F : Fun K "most_units" "most_units" s_most_units f fd) (T : TX mg) {a_rounds : Addr} {fd_rounds : FuncData} (D_rounds : Df K mg "rounds" s_rounds ["level"] a_rounds fd_rounds) (G_rounds : FnOk P w K mg base (L2.CX P w) 2 a_rounds fd_rounds ["level"] (spOf ⟨P, w, K⟩ xm 1 f_rounds)) : FnOk P w K mg base (L2.CX P w) 3 f fd ["level"] (spOf ⟨P, w, K⟩ xm 1 f_most_units) :=
  fn_ok (N := ["level", "path"]) (m := false) (b := b_most_units) xm F sc_most_units fun cdv A outer s H E W hr tk =>
    ss_cons (ss_if (st_bool (sw_and (st_cmp opr_is ok_is (se_ix ixr ok_ix (se_var (pv 0)) (se_int)) (se_non)) (sw_and1 (st_cmp op_gt ok_cmpI (se_ix ixr ok_ix (se_var (pv 0)) (se_int)) (se_int))))) (ss_one (ss_ret (se_non))) (ss_nil))
    (ss_one (ss_ret (se_callB (callr_max rfl hr) ok_max (sa_cons (se_lc (m := false) (own := [("path", 1)]) rfl sc_most_units.nd (blkOk_by (N := ["level", "path"]) (sc := defScope s_most_units) (by decide +kernel)) (by decide) (si_seq (se_call (fn_pure G_rounds) rfl tk (hr.mono (by decide)) D_rounds.m D_rounds.F.kp D_rounds.b (sa_cons (se_var (pv 0)) (sa_nil)) (len_cons len_nil))) (fun _ _ _ _ _ => pg_name (i := 1) sc_most_units.nd rfl (Or.inl rfl)) tgk_name (fun _ _ _ _ _ => spt_nil) (fun _ _ _ _ _ => se_callB call_len ok_len (sa_cons (se_var (pv 1)) (sa_nil)) rfl T.n_len bt_len)) (sa_nil)) rfl T.n_max bt_max)))
abbrev s_best_row : Stmt := top 44
theorem sc_best_row : FnScope ["level", "wins", "units", "best", "path", "value", "points", "side"] ["level", "wins", "units"] (defScope s_best_row) := ⟨rfl, rfl, rfl, by decide +kernel, rfl, by decide +kernel, by decide +kernel⟩
theorem ok_best_row {f : Addr} {fd : FuncData} (F : Fun K "best_row" "best_row" s_best_row f fd) (T : TX mg) {a_round_winner : Addr} {fd_round_winner : FuncData} (D_round_winner : Df K mg "round_winner" s_round_winner ["level", "pair"] a_round_winner fd_round_winner) (G_round_winner : FnOk P w K mg base (L2.CX P w) 1 a_round_winner fd_round_winner ["level", "pair"] (spOf ⟨P, w, K⟩ xm 2 f_round_winner)) {a_rounds : Addr} {fd_rounds : FuncData} (D_rounds : Df K mg "rounds" s_rounds ["level"] a_rounds fd_rounds) (G_rounds : FnOk P w K mg base (L2.CX P w) 2 a_rounds fd_rounds ["level"] (spOf ⟨P, w, K⟩ xm 1 f_rounds)) : FnOk P w K mg base (L2.CX P w) 3 f fd ["level", "wins", "units"] (spOf ⟨P, w, K⟩ xm 3 f_best_row) :=
  fn_ok (N := ["level", "wins", "units", "best", "path", "value", "points", "side"]) (m := false) (b := b_best_row) xm F sc_best_row fun cdv A outer s H E W hr tk =>
    ss_cons (ss_set (i := 3) sc_best_row.nd rfl (Or.inl rfl) (se_non))
    (ss_cons (ss_for (passes_of rfl) rfl (si_seq (se_call (fn_pure G_rounds) rfl tk (hr.mono (by decide)) D_rounds.m D_rounds.F.kp D_rounds.b (sa_cons (se_var (pv 0)) (sa_nil)) (len_cons len_nil))) (sg_name (pg_name (i := 4) sc_best_row.nd rfl (Or.inl rfl))) (ss_one (ss_if (st_cmp (opr_eq hr) ok_eq (se_call (fn_pure G_round_winner) rfl tk (hr.mono (by decide)) D_round_winner.m D_round_winner.F.kp D_round_winner.b (sa_cons (se_var (pv 0)) (sa_cons (se_tup (sa_cons (se_count (se_var (pv 4)) (sa_cons (se_int) (sa_nil))) (sa_cons (se_count (se_var (pv 4)) (sa_cons (se_int) (sa_nil))) (sa_nil)))) (sa_nil))) (len_cons (len_cons len_nil))) (se_if (st_val (se_var (pv 1))) (se_int) (se_int))) (ss_cons (ss_set (i := 5) sc_best_row.nd rfl (Or.inl rfl) (se_callB (callr_sum rfl) ok_sum (sa_cons (se_lc (m := false) (own := [("side", 7)]) rfl sc_best_row.nd (blkOk_by (N := ["level", "wins", "units", "best", "path", "value", "points", "side"]) (sc := defScope s_best_row) (by decide +kernel)) (by decide) (si_seq (se_var (pv 4))) (fun _ _ _ _ _ => pg_name (i := 7) sc_best_row.nd rfl (Or.inl rfl)) tgk_name (fun _ _ _ _ _ => spt_nil) (fun _ _ _ _ _ => se_ix ixr ok_ix (se_ix ixr ok_ix (se_var (pv 2)) (se_var (pv 7))) (se_int))) (sa_nil)) rfl T.n_sum bt_sum))
    (ss_cons (ss_set (i := 6) sc_best_row.nd rfl (Or.inl rfl) (se_callB (callr_sum rfl) ok_sum (sa_cons (se_lc (m := false) (own := [("side", 7)]) rfl sc_best_row.nd (blkOk_by (N := ["level", "wins", "units", "best", "path", "value", "points", "side"]) (sc := defScope s_best_row) (by decide +kernel)) (by decide) (si_seq (se_var (pv 4))) (fun _ _ _ _ _ => pg_name (i := 7) sc_best_row.nd rfl (Or.inl rfl)) tgk_name (fun _ _ _ _ _ => spt_nil) (fun _ _ _ _ _ => se_ix ixr ok_ix (se_ix ixr ok_ix (se_var (pv 2)) (se_var (pv 7))) (se_int))) (sa_nil)) rfl T.n_sum bt_sum))
    (ss_one (ss_if (st_bool (sw_or (st_cmp opr_is ok_is (se_var (pv 3)) (se_non)) (sw_or1 (st_cmp (opr_lt hr) ok_lt (se_tup (sa_cons (se_un un_neg ok_neg (se_var (pv 5))) (sa_cons (se_var (pv 6)) (sa_nil)))) (se_cut (m := false) (se_var (pv 3)) (so_none) (so_some (se_int))))))) (ss_one (ss_set (i := 3) sc_best_row.nd rfl (Or.inl rfl) (se_tup (sa_cons (se_un un_neg ok_neg (se_var (pv 5))) (sa_cons (se_var (pv 6)) (sa_cons (se_var (pv 4)) (sa_nil))))))) (ss_nil))))) (ss_nil))))
    (ss_one (ss_ret (se_tup (sa_cons (se_un un_neg ok_neg (se_ix ixr ok_ix (se_var (pv 3)) (se_int))) (sa_cons (se_ix ixr ok_ix (se_var (pv 3)) (se_int)) (sa_cons (se_ix ixr ok_ix (se_var (pv 3)) (se_int)) (sa_nil))))))))
abbrev s_walk : Stmt := top 56
theorem sc_walk : FnScope ["chance", "lead", "ahead", "own", "rival", "up", "down", "wins", "whole", "won", "units"] ["chance", "lead", "ahead"] (defScope s_walk) := ⟨rfl, rfl, rfl, by decide +kernel, rfl, by decide +kernel, by decide +kernel⟩
theorem ok_walk {f : Addr} {fd : FuncData} (F : Fun K "walk" "walk" s_walk f fd) (T : TX mg) {a_lowest : Addr} {fd_lowest : FuncData} (D_lowest : Df K mg "lowest" s_lowest ["numerator", "denominator"] a_lowest fd_lowest) (G_lowest : FnOk P w K mg base (L2.CX P w) 1 a_lowest fd_lowest ["numerator", "denominator"] (spOf ⟨P, w, K⟩ xm 2 f_lowest)) {a_times : Addr} {fd_times : FuncData} (D_times : Df K mg "times" s_times ["one", "two"] a_times fd_times) (G_times : FnOk P w K mg base (L2.CX P w) 2 a_times fd_times ["one", "two"] (spOf ⟨P, w, K⟩ xm 2 f_times)) {a_added : Addr} {fd_added : FuncData} (D_added : Df K mg "added" s_added ["one", "two"] a_added fd_added) (G_added : FnOk P w K mg base (L2.CX P w) 2 a_added fd_added ["one", "two"] (spOf ⟨P, w, K⟩ xm 2 f_added)) {a_power : Addr} {fd_power : FuncData} (D_power : Df K mg "power" s_power ["base", "many"] a_power fd_power) (G_power : FnOk P w K mg base (L2.CX P w) 1 a_power fd_power ["base", "many"] (spOf ⟨P, w, K⟩ xm 2 f_power)) : FnOk P w K mg base (L2.CX P w) 3 f fd ["chance", "lead", "ahead"] (spOf ⟨P, w, K⟩ xm 3 f_walk) :=
  fn_ok (N := ["chance", "lead", "ahead", "own", "rival", "up", "down", "wins", "whole", "won", "units"]) (m := false) (b := b_walk) xm F sc_walk fun cdv A outer s H E W hr tk =>
    ss_cons (ss_par2s (i := 3) (j := 4) rfl sc_walk.nd (sa_cons (se_ix ixr ok_ix (se_var (pv 0)) (se_int)) (sa_cons (se_bin op_sub ok_sub (se_ix ixr ok_ix (se_var (pv 0)) (se_int)) (se_ix ixr ok_ix (se_var (pv 0)) (se_int))) (sa_nil))) (by decide))
    (ss_cons (ss_par2s (i := 5) (j := 6) rfl sc_walk.nd (sa_cons (se_bin opr_add (ok_add (m := false)) (se_var (pv 1)) (se_var (pv 2))) (sa_cons (se_bin op_sub ok_sub (se_var (pv 1)) (se_var (pv 2))) (sa_nil))) (by decide))
    (ss_cons (ss_if (st_cmp (opr_eq hr) ok_eq (se_var (pv 3)) (se_var (pv 4))) (ss_one (ss_ret (se_tup (sa_cons (se_call (fn_pure G_lowest) rfl tk (hr.mono (by decide)) D_lowest.m D_lowest.F.kp D_lowest.b (sa_cons (se_var (pv 5)) (sa_cons (se_bin opr_mul (ok_mul (m := false)) (se_int) (se_var (pv 1))) (sa_nil))) (len_cons (len_cons len_nil))) (sa_cons (se_tup (sa_cons (se_bin opr_mul (ok_mul (m := false)) (se_var (pv 5)) (se_var (pv 6))) (sa_cons (se_int) (sa_nil)))) (sa_nil)))))) (ss_nil))
    (ss_cons (ss_set (i := 7) sc_walk.nd rfl (Or.inl rfl) (se_bin opr_mul (ok_mul (m := false)) (se_call (fn_pure G_power) rfl tk (hr.mono (by decide)) D_power.m D_power.F.kp D_power.b (sa_cons (se_var (pv 3)) (sa_cons (se_var (pv 6)) (sa_nil))) (len_cons (len_cons len_nil))) (se_bin op_sub ok_sub (se_call (fn_pure G_power) rfl tk (hr.mono (by decide)) D_power.m D_power.F.kp D_power.b (sa_cons (se_var (pv 3)) (sa_cons (se_var (pv 5)) (sa_nil))) (len_cons (len_cons len_nil))) (se_call (fn_pure G_power) rfl tk (hr.mono (by decide)) D_power.m D_power.F.kp D_power.b (sa_cons (se_var (pv 4)) (sa_cons (se_var (pv 5)) (sa_nil))) (len_cons (len_cons len_nil))))))
    (ss_cons (ss_set (i := 8) sc_walk.nd rfl (Or.inl rfl) (se_bin op_sub ok_sub (se_call (fn_pure G_power) rfl tk (hr.mono (by decide)) D_power.m D_power.F.kp D_power.b (sa_cons (se_var (pv 3)) (sa_cons (se_bin opr_mul (ok_mul (m := false)) (se_int) (se_var (pv 1))) (sa_nil))) (len_cons (len_cons len_nil))) (se_call (fn_pure G_power) rfl tk (hr.mono (by decide)) D_power.m D_power.F.kp D_power.b (sa_cons (se_var (pv 4)) (sa_cons (se_bin opr_mul (ok_mul (m := false)) (se_int) (se_var (pv 1))) (sa_nil))) (len_cons (len_cons len_nil)))))
    (ss_cons (ss_set (i := 9) sc_walk.nd rfl (Or.inl rfl) (se_call (fn_pure G_lowest) rfl tk (hr.mono (by decide)) D_lowest.m D_lowest.F.kp D_lowest.b (sa_cons (se_var (pv 7)) (sa_cons (se_var (pv 8)) (sa_nil))) (len_cons (len_cons len_nil))))
    (ss_cons (ss_set (i := 10) sc_walk.nd rfl (Or.inl rfl) (se_call (fn_pure G_added) rfl tk (hr.mono (by decide)) D_added.m D_added.F.kp D_added.b (sa_cons (se_tup (sa_cons (se_bin opr_mul (ok_mul (m := false)) (se_bin opr_mul (ok_mul (m := false)) (se_int) (se_var (pv 1))) (se_ix ixr ok_ix (se_var (pv 9)) (se_int))) (sa_cons (se_ix ixr ok_ix (se_var (pv 9)) (se_int)) (sa_nil)))) (sa_cons (se_tup (sa_cons (se_un un_neg ok_neg (se_var (pv 5))) (sa_cons (se_int) (sa_nil)))) (sa_nil))) (len_cons (len_cons len_nil))))
    (ss_one (ss_ret (se_tup (sa_cons (se_var (pv 9)) (sa_cons (se_call (fn_pure G_times) rfl tk (hr.mono (by decide)) D_times.m D_times.F.kp D_times.b (sa_cons (se_var (pv 10)) (sa_cons (se_call (fn_pure G_lowest) rfl tk (hr.mono (by decide)) D_lowest.m D_lowest.F.kp D_lowest.b (sa_cons (se_ix ixr ok_ix (se_var (pv 0)) (se_int)) (sa_cons (se_bin op_sub ok_sub (se_var (pv 3)) (se_var (pv 4))) (sa_nil))) (len_cons (len_cons len_nil))) (sa_nil))) (len_cons (len_cons len_nil))) (sa_nil))))))))))))
abbrev s_need_form : Stmt := top 18
theorem sc_need_form : FnScope ["value"] ["value"] (defScope s_need_form) := ⟨rfl, rfl, rfl, by decide +kernel, rfl, by decide +kernel, by decide +kernel⟩
theorem ok_need_form {f : Addr} {fd : FuncData} (F : Fun K "need_form" "need_form" s_need_form f fd) (T : TX mg) {a_is_form : Addr} {fd_is_form : FuncData} (D_is_form : Df K mg "is_form" s_is_form ["value"] a_is_form fd_is_form) (G_is_form : FnOk P w K mg base (L2.CX P w) 3 a_is_form fd_is_form ["value"] (spOf ⟨P, w, K⟩ xm 1 f_is_form)) : FnOk P w K mg base (L2.CX P w) 4 f fd ["value"] (spOf ⟨P, w, K⟩ xm 1 f_need_form) :=
  fn_ok (N := ["value"]) (m := false) (b := b_need_form) xm F sc_need_form fun cdv A outer s H E W hr tk =>
    ss_one (ss_if (st_not (st_val (se_call (fn_pure G_is_form) rfl tk (hr.mono (by decide)) D_is_form.m D_is_form.F.kp D_is_form.b (sa_cons (se_var (pv 0)) (sa_nil)) (len_cons len_nil)))) (ss_one (ss_bad)) (ss_nil))
abbrev s_surpluses : Stmt := top 45
theorem sc_surpluses : FnScope ["form", "units", "found", "level", "won", "lost"] ["form"] (defScope s_surpluses) := ⟨rfl, rfl, rfl, by decide +kernel, rfl, by decide +kernel, by decide +kernel⟩
theorem ok_surpluses {f : Addr} {fd : FuncData} (F : Fun K "surpluses" "surpluses" s_surpluses f fd) (T : TX mg) {a_best_row : Addr} {fd_best_row : FuncData} (D_best_row : Df K mg "best_row" s_best_row ["level", "wins", "units"] a_best_row fd_best_row) (G_best_row : FnOk P w K mg base (L2.CX P w) 3 a_best_row fd_best_row ["level", "wins", "units"] (spOf ⟨P, w, K⟩ xm 3 f_best_row)) : FnOk P w K mg base (L2.CX P w) 4 f fd ["form"] (spOf ⟨P, w, K⟩ xm 1 f_surpluses) :=
  fn_ok (N := ["form", "units", "found", "level", "won", "lost"]) (m := false) (b := b_surpluses) xm F sc_surpluses fun cdv A outer s H E W hr tk =>
    ss_cons (ss_par2s (i := 1) (j := 2) rfl sc_surpluses.nd (sa_cons (se_tup (sa_cons (se_tup (sa_cons (se_un un_neg ok_neg (se_int)) (sa_cons (se_int) (sa_nil)))) (sa_cons (se_tup (sa_cons (se_int) (sa_cons (se_int) (sa_nil)))) (sa_nil)))) (sa_cons (se_lst (m := true) (sa_nil)) (sa_nil))) (by decide))
    (ss_cons (ss_for (passes_of rfl) rfl (si_seq (se_var (pv 0))) (sg_name (pg_name (i := 3) sc_surpluses.nd rfl (Or.inl rfl))) (ss_cons (ss_if (st_bool (sw_and (st_cmp opr_is ok_is (se_ix ixr ok_ix (se_var (pv 3)) (se_int)) (se_non)) (sw_and (st_cmp op_gt ok_cmpI (se_ix ixr ok_ix (se_var (pv 3)) (se_int)) (se_int)) (sw_and1 (st_cmp op_gt ok_cmpI (se_bin opr_add (ok_add (m := false)) (se_ix ixr ok_ix (se_ix ixr ok_ix (se_var (pv 1)) (se_int)) (se_int)) (se_ix ixr ok_ix (se_ix ixr ok_ix (se_var (pv 1)) (se_int)) (se_int))) (se_int)))))) (ss_one (ss_ret (se_non))) (ss_nil))
    (ss_cons (ss_par2s (i := 4) (j := 5) rfl sc_surpluses.nd (sa_cons (se_call (fn_pure G_best_row) rfl tk (hr.mono (by decide)) D_best_row.m D_best_row.F.kp D_best_row.b (sa_cons (se_var (pv 3)) (sa_cons (se_bl) (sa_cons (se_var (pv 1)) (sa_nil)))) (len_cons (len_cons (len_cons len_nil)))) (sa_cons (se_call (fn_pure G_best_row) rfl tk (hr.mono (by decide)) D_best_row.m D_best_row.F.kp D_best_row.b (sa_cons (se_var (pv 3)) (sa_cons (se_bl) (sa_cons (se_var (pv 1)) (sa_nil)))) (len_cons (len_cons (len_cons len_nil)))) (sa_nil))) (by decide))
    (ss_cons (ss_expr (se_append (se_var (pv 2)) (sa_cons (se_tup (sa_cons (se_var (pv 4)) (sa_cons (se_var (pv 5)) (sa_nil)))) (sa_nil))))
    (ss_one (ss_set (i := 1) sc_surpluses.nd rfl (Or.inl rfl) (se_tup (sa_cons (se_cut (m := false) (se_var (pv 4)) (so_none) (so_some (se_int))) (sa_cons (se_cut (m := false) (se_var (pv 5)) (so_none) (so_some (se_int))) (sa_nil))))))))))
    (ss_one (ss_ret (se_var (pv 2)))))
abbrev s_points_of : Stmt := top 47
theorem sc_points_of : FnScope ["found", "at", "side", "points", "one"] ["found", "at", "side"] (defScope s_points_of) := ⟨rfl, rfl, rfl, by decide +kernel, rfl, by decide +kernel, by decide +kernel⟩
theorem ok_points_of {f : Addr} {fd : FuncData} (F : Fun K "points_of" "points_of" s_points_of f fd) (D_points_of : Df K mg "points_of" s_points_of ["found", "at", "side"] f fd) (T : TX mg) : ∀ k : Nat, FnOk P w K mg base (L2.CX P w) (0 + k) f fd ["found", "at", "side"] (spOf ⟨P, w, K⟩ xm 3 (f_points_of k))
  | 0 => fn_bad rfl
  | k + 1 => by
    have G_points_of := ok_points_of F D_points_of T k
    exact fn_ok (N := ["found", "at", "side", "points", "one"]) (m := false) (b := b_points_of (f_points_of k)) xm F sc_points_of fun cdv A outer s H E W hr tk => (
      ss_cons (ss_if (st_cmp (opr_lt hr) ok_lt (se_var (pv 1)) (se_int)) (ss_one (ss_ret (se_lst (m := false) (sa_cons (se_var (pv 2)) (sa_nil))))) (ss_nil))
    (ss_cons (ss_set (i := 3) sc_points_of.nd rfl (Or.inl rfl) (se_lst (m := true) (sa_nil)))
    (ss_cons (ss_for (passes_of rfl) rfl (si_seq (se_ix ixr ok_ix (se_ix ixr ok_ix (se_ix ixr ok_ix (se_var (pv 0)) (se_var (pv 1))) (se_var (pv 2))) (se_int))) (sg_name (pg_name (i := 4) sc_points_of.nd rfl (Or.inl rfl))) (ss_one (ss_expr (se_extend (se_var (pv 3)) (sa_cons (se_call (fn_pure G_points_of) rfl tk (hr.mono (by first | exact Nat.le_refl _ | (simp only [Nat.add_eq]; omega))) D_points_of.m D_points_of.F.kp D_points_of.b (sa_cons (se_var (pv 0)) (sa_cons (se_bin op_sub ok_sub (se_var (pv 1)) (se_int)) (sa_cons (se_var (pv 4)) (sa_nil)))) (len_cons (len_cons (len_cons len_nil)))) (sa_nil))))))
    (ss_one (ss_ret (se_var (pv 3)))))))
abbrev s_Board_score : Stmt := inClass (top 50) 3
theorem sc_Board_score : FnScope ["self"] ["self"] (defScope s_Board_score) := ⟨rfl, rfl, rfl, by decide +kernel, rfl, by decide +kernel, by decide +kernel⟩
theorem ok_Board_score {f : Addr} {fd : FuncData} (F : Fun K "score" "Board.score" s_Board_score f fd) (T : TX mg) {C : Addr} (Bc : Bdx K mg C) {a_played : Addr} {fd_played : FuncData} (D_played : Df K mg "played" s_played ["form", "row"] a_played fd_played) (G_played : FnOk P w K mg base (L2.CX P w) 3 a_played fd_played ["form", "row"] (spOf ⟨P, w, K⟩ xm 2 f_played)) : FnOk P w K mg base (L2.CX P w) 4 f fd ["self"] (spOf ⟨P, w, K⟩ xm 1 f_Board_score) :=
  fn_ok (N := ["self"]) (m := false) (b := b_Board_score) xm F sc_Board_score fun cdv A outer s H E W hr tk =>
    ss_one (ss_ret (se_ix ixr ok_ix (se_call G_played rfl tk (hr.mono (by decide)) D_played.m D_played.F.kp D_played.b (sa_cons (se_fld Bc.b (se_var (pv 0))) (sa_cons (se_fld Bc.b (se_var (pv 0))) (sa_nil))) (len_cons (len_cons len_nil))) (se_int)))
abbrev s_Board_winner : Stmt := inClass (top 50) 4
theorem sc_Board_winner : FnScope ["self"] ["self"] (defScope s_Board_winner) := ⟨rfl, rfl, rfl, by decide +kernel, rfl, by decide +kernel, by decide +kernel⟩
theorem ok_Board_winner {f : Addr} {fd : FuncData} (F : Fun K "winner" "Board.winner" s_Board_winner f fd) (T : TX mg) {C : Addr} (Bc : Bdx K mg C) {a_played : Addr} {fd_played : FuncData} (D_played : Df K mg "played" s_played ["form", "row"] a_played fd_played) (G_played : FnOk P w K mg base (L2.CX P w) 3 a_played fd_played ["form", "row"] (spOf ⟨P, w, K⟩ xm 2 f_played)) : FnOk P w K mg base (L2.CX P w) 4 f fd ["self"] (spOf ⟨P, w, K⟩ xm 1 f_Board_winner) :=
  fn_ok (N := ["self"]) (m := false) (b := b_Board_winner) xm F sc_Board_winner fun cdv A outer s H E W hr tk =>
    ss_one (ss_ret (se_ix ixr ok_ix (se_call G_played rfl tk (hr.mono (by decide)) D_played.m D_played.F.kp D_played.b (sa_cons (se_fld Bc.b (se_var (pv 0))) (sa_cons (se_fld Bc.b (se_var (pv 0))) (sa_nil))) (len_cons (len_cons len_nil))) (se_int)))
abbrev s_round_of : Stmt := top 58
theorem sc_round_of : FnScope ["level", "chance", "ends", "pair", "most", "rival", "won", "units", "rest", "weight", "side", "whole", "found", "ahead", "share", "more"] ["level", "chance"] (defScope s_round_of) := ⟨rfl, rfl, rfl, by decide +kernel, rfl, by decide +kernel, by decide +kernel⟩
theorem ok_round_of {f : Addr} {fd : FuncData} (F : Fun K "round_of" "round_of" s_round_of f fd) (T : TX mg) {a_round_winner : Addr} {fd_round_winner : FuncData} (D_round_winner : Df K mg "round_winner" s_round_winner ["level", "pair"] a_round_winner fd_round_winner) (G_round_winner : FnOk P w K mg base (L2.CX P w) 1 a_round_winner fd_round_winner ["level", "pair"] (spOf ⟨P, w, K⟩ xm 2 f_round_winner)) {a_lowest : Addr} {fd_lowest : FuncData} (D_lowest : Df K mg "lowest" s_lowest ["numerator", "denominator"] a_lowest fd_lowest) (G_lowest : FnOk P w K mg base (L2.CX P w) 1 a_lowest fd_lowest ["numerator", "denominator"] (spOf ⟨P, w, K⟩ xm 2 f_lowest)) {a_times : Addr} {fd_times : FuncData} (D_times : Df K mg "times" s_times ["one", "two"] a_times fd_times) (G_times : FnOk P w K mg base (L2.CX P w) 2 a_times fd_times ["one", "two"] (spOf ⟨P, w, K⟩ xm 2 f_times)) {a_added : Addr} {fd_added : FuncData} (D_added : Df K mg "added" s_added ["one", "two"] a_added fd_added) (G_added : FnOk P w K mg base (L2.CX P w) 2 a_added fd_added ["one", "two"] (spOf ⟨P, w, K⟩ xm 2 f_added)) {a_power : Addr} {fd_power : FuncData} (D_power : Df K mg "power" s_power ["base", "many"] a_power fd_power) (G_power : FnOk P w K mg base (L2.CX P w) 1 a_power fd_power ["base", "many"] (spOf ⟨P, w, K⟩ xm 2 f_power)) {a_walk : Addr} {fd_walk : FuncData} (D_walk : Df K mg "walk" s_walk ["chance", "lead", "ahead"] a_walk fd_walk) (G_walk : FnOk P w K mg base (L2.CX P w) 3 a_walk fd_walk ["chance", "lead", "ahead"] (spOf ⟨P, w, K⟩ xm 3 f_walk)) {a_ends_of : Addr} {fd_ends_of : FuncData} (D_ends_of : Df K mg "ends_of" s_ends_of ["level"] a_ends_of fd_ends_of) (G_ends_of : FnOk P w K mg base (L2.CX P w) 2 a_ends_of fd_ends_of ["level"] (spOf ⟨P, w, K⟩ xm 1 f_ends_of)) : FnOk P w K mg base (L2.CX P w) 4 f fd ["level", "chance"] (spOf ⟨P, w, K⟩ xm 2 f_round_of) :=
  fn_ok (N := ["level", "chance", "ends", "pair", "most", "rival", "won", "units", "rest", "weight", "side", "whole", "found", "ahead", "share", "more"]) (m := false) (b := b_round_of) xm F sc_round_of fun cdv A outer s H E W hr tk =>
    ss_cons (ss_set (i := 2) sc_round_of.nd rfl (Or.inl rfl) (se_call G_ends_of rfl tk (hr.mono (by decide)) D_ends_of.m D_ends_of.F.kp D_ends_of.b (sa_cons (se_var (pv 0)) (sa_nil)) (len_cons len_nil)))
    (ss_cons (ss_par2s (i := 4) (j := 5) rfl sc_round_of.nd (sa_cons (se_callB (callr_max rfl hr) ok_max (sa_cons (se_lock (se_lc (m := false) (own := [("pair", 3)]) rfl sc_round_of.nd (blkOk_by (N := ["level", "chance", "ends", "pair", "most", "rival", "won", "units", "rest", "weight", "side", "whole", "found", "ahead", "share", "more"]) (sc := defScope s_round_of) (by decide +kernel)) (by decide) (si_keysD (se_var (pv 2))) (fun _ _ _ _ _ => pg_name (i := 3) sc_round_of.nd rfl (Or.inl rfl)) tgk_name (fun _ _ _ _ _ => spt_nil) (fun _ _ _ _ _ => se_callB (callr_sum rfl) ok_sum (sa_cons (se_var (pv 3)) (sa_nil)) rfl T.n_sum bt_sum))) (sa_nil)) rfl T.n_max bt_max) (sa_cons (se_bin op_sub ok_sub (se_ix ixr ok_ix (se_var (pv 1)) (se_int)) (se_ix ixr ok_ix (se_var (pv 1)) (se_int))) (sa_nil))) (by decide))
    (ss_cons (ss_par3s (i := 6) (j := 7) (l := 8) rfl sc_round_of.nd (sa_cons (se_int) (sa_cons (se_int) (sa_cons (se_dki0) (sa_nil)))) (by decide) (by decide) (by decide))
    (ss_cons (ss_lock (ss_for (passes_of rfl) rfl (si_keysD (se_var (pv 2))) (sg_name (pg_name (i := 3) sc_round_of.nd rfl (Or.inl rfl))) (ss_cons (ss_set (i := 9) sc_round_of.nd rfl (Or.inl rfl) (se_bin opr_mul (ok_mul (m := false)) (se_bin opr_mul (ok_mul (m := false)) (se_bin opr_mul (ok_mul (m := false)) (se_ix (ix_x (hu9 hr)) ok_getX (se_var (pv 2)) (se_var (pv 3))) (se_call (fn_pure G_power) rfl tk (hr.mono (by decide)) D_power.m D_power.F.kp D_power.b (sa_cons (se_ix ixr ok_ix (se_var (pv 1)) (se_int)) (sa_cons (se_ix ixr ok_ix (se_var (pv 3)) (se_int)) (sa_nil))) (len_cons (len_cons len_nil)))) (se_call (fn_pure G_power) rfl tk (hr.mono (by decide)) D_power.m D_power.F.kp D_power.b (sa_cons (se_var (pv 5)) (sa_cons (se_ix ixr ok_ix (se_var (pv 3)) (se_int)) (sa_nil))) (len_cons (len_cons len_nil)))) (se_call (fn_pure G_power) rfl tk (hr.mono (by decide)) D_power.m D_power.F.kp D_power.b (sa_cons (se_ix ixr ok_ix (se_var (pv 1)) (se_int)) (sa_cons (se_bin op_sub ok_sub (se_var (pv 4)) (se_callB (callr_sum rfl) ok_sum (sa_cons (se_var (pv 3)) (sa_nil)) rfl T.n_sum bt_sum)) (sa_nil))) (len_cons (len_cons len_nil)))))
    (ss_cons (ss_aug (i := 7) sc_round_of.nd rfl (Or.inl rfl) iop_add ok_addI (se_bin opr_mul (ok_mul (m := false)) (se_var (pv 9)) (se_callB (callr_sum rfl) ok_sum (sa_cons (se_var (pv 3)) (sa_nil)) rfl T.n_sum bt_sum)))
    (ss_cons (ss_set (i := 10) sc_round_of.nd rfl (Or.inl rfl) (se_call (fn_pure G_round_winner) rfl tk (hr.mono (by decide)) D_round_winner.m D_round_winner.F.kp D_round_winner.b (sa_cons (se_var (pv 0)) (sa_cons (se_var (pv 3)) (sa_nil))) (len_cons (len_cons len_nil))))
    (ss_one (ss_if (st_cmp opr_is ok_is (se_var (pv 10)) (se_non)) (ss_one (ss_setX (hu9 hr) (se_bin opr_add (ok_add (m := false)) (se_getX (hu9 hr) (se_var (pv 8)) (se_bin op_sub ok_sub (se_ix ixr ok_ix (se_var (pv 3)) (se_int)) (se_ix ixr ok_ix (se_var (pv 3)) (se_int))) (se_int) ⟨rfl, rfl, rfl, rfl⟩) (se_var (pv 9))) (se_var (pv 8)) (se_bin op_sub ok_sub (se_ix ixr ok_ix (se_var (pv 3)) (se_int)) (se_ix ixr ok_ix (se_var (pv 3)) (se_int))))) (ss_one (ss_if (st_cmp (opr_eq hr) ok_eq (se_var (pv 10)) (se_int)) (ss_one (ss_aug (i := 6) sc_round_of.nd rfl (Or.inl rfl) iop_add ok_addI (se_var (pv 9)))) (ss_nil))))))))))
    (ss_cons (ss_set (i := 11) sc_round_of.nd rfl (Or.inl rfl) (se_call (fn_pure G_power) rfl tk (hr.mono (by decide)) D_power.m D_power.F.kp D_power.b (sa_cons (se_ix ixr ok_ix (se_var (pv 1)) (se_int)) (sa_cons (se_var (pv 4)) (sa_nil))) (len_cons (len_cons len_nil))))
    (ss_cons (ss_set (i := 12) sc_round_of.nd rfl (Or.inl rfl) (se_tup (sa_cons (se_call (fn_pure G_lowest) rfl tk (hr.mono (by decide)) D_lowest.m D_lowest.F.kp D_lowest.b (sa_cons (se_var (pv 6)) (sa_cons (se_var (pv 11)) (sa_nil))) (len_cons (len_cons len_nil))) (sa_cons (se_call (fn_pure G_lowest) rfl tk (hr.mono (by decide)) D_lowest.m D_lowest.F.kp D_lowest.b (sa_cons (se_var (pv 7)) (sa_cons (se_var (pv 11)) (sa_nil))) (len_cons (len_cons len_nil))) (sa_nil)))))
    (ss_cons (ss_lock (ss_for (passes_of rfl) rfl (si_keysD (se_var (pv 8))) (sg_name (pg_name (i := 13) sc_round_of.nd rfl (Or.inl rfl))) (ss_cons (ss_par2s (i := 14) (j := 15) rfl sc_round_of.nd (sa_cons (se_call (fn_pure G_lowest) rfl tk (hr.mono (by decide)) D_lowest.m D_lowest.F.kp D_lowest.b (sa_cons (se_ix (ix_x (hu9 hr)) ok_getX (se_var (pv 8)) (se_var (pv 13))) (sa_cons (se_var (pv 11)) (sa_nil))) (len_cons (len_cons len_nil))) (sa_cons (se_call (fn_pure G_walk) rfl tk (hr.mono (by decide)) D_walk.m D_walk.F.kp D_walk.b (sa_cons (se_var (pv 1)) (sa_cons (se_ix ixr ok_ix (se_var (pv 0)) (se_int)) (sa_cons (se_var (pv 13)) (sa_nil)))) (len_cons (len_cons (len_cons len_nil)))) (sa_nil))) (by decide))
    (ss_one (ss_set (i := 12) sc_round_of.nd rfl (Or.inl rfl) (se_tup (sa_cons (se_call (fn_pure G_added) rfl tk (hr.mono (by decide)) D_added.m D_added.F.kp D_added.b (sa_cons (se_ix ixr ok_ix (se_var (pv 12)) (se_int)) (sa_cons (se_call (fn_pure G_times) rfl tk (hr.mono (by decide)) D_times.m D_times.F.kp D_times.b (sa_cons (se_var (pv 14)) (sa_cons (se_ix ixr ok_ix (se_var (pv 15)) (se_int)) (sa_nil))) (len_cons (len_cons len_nil))) (sa_nil))) (len_cons (len_cons len_nil))) (sa_cons (se_call (fn_pure G_added) rfl tk (hr.mono (by decide)) D_added.m D_added.F.kp D_added.b (sa_cons (se_ix ixr ok_ix (se_var (pv 12)) (se_int)) (sa_cons (se_call (fn_pure G_times) rfl tk (hr.mono (by decide)) D_times.m D_times.F.kp D_times.b (sa_cons (se_var (pv 14)) (sa_cons (se_ix ixr ok_ix (se_var (pv 15)) (se_int)) (sa_nil))) (len_cons (len_cons len_nil))) (sa_nil))) (len_cons (len_cons len_nil))) (sa_nil)))))))))
    (ss_one (ss_ret (se_var (pv 12))))))))))
abbrev s_parse_form : Stmt := top 68
theorem sc_parse_form : FnScope ["text", "form", "word"] ["text"] (defScope s_parse_form) := ⟨rfl, rfl, rfl, by decide +kernel, rfl, by decide +kernel, by decide +kernel⟩
theorem ok_parse_form {f : Addr} {fd : FuncData} (F : Fun K "parse_form" "parse_form" s_parse_form f fd) (T : TX mg) {C6 : Addr} (E6 : EC K mg xm "InvalidFormat" 6 C6) {a_is_form : Addr} {fd_is_form : FuncData} (D_is_form : Df K mg "is_form" s_is_form ["value"] a_is_form fd_is_form) (G_is_form : FnOk P w K mg base (L2.CX P w) 3 a_is_form fd_is_form ["value"] (spOf ⟨P, w, K⟩ xm 1 f_is_form)) {a_formatted : Addr} {fd_formatted : FuncData} (D_formatted : Df K mg "formatted" s_formatted ["form"] a_formatted fd_formatted) (G_formatted : FnOk P w K mg base (L2.CX P w) 1 a_formatted fd_formatted ["form"] (spOf ⟨P, w, K⟩ xm 1 f_formatted)) {a_parsed_level : Addr} {fd_parsed_level : FuncData} (D_parsed_level : Df K mg "parsed_level" s_parsed_level ["word"] a_parsed_level fd_parsed_level) (G_parsed_level : FnOk P w K mg base (L2.CX P w) 2 a_parsed_level fd_parsed_level ["word"] (spOf ⟨P, w, K⟩ xm 1 f_parsed_level)) : FnOk P w K mg base (L2.CX P w) 4 f fd ["text"] (spOf ⟨P, w, K⟩ xm 1 f_parse_form) :=
  fn_ok (N := ["text", "form", "word"]) (m := false) (b := b_parse_form) xm F sc_parse_form fun cdv A outer s H E W hr tk =>
    ss_cons (ss_if (st_not (st_val (se_callB callr_isa ok_isa (sa_cons (se_var (pv 0)) (sa_cons (se_ty T.n_str bt_str) (sa_nil))) rfl T.n_isinstance bt_isinstance))) (ss_one (ss_raise E6 rfl tk)) (ss_nil))
    (ss_cons (ss_set (i := 1) sc_parse_form.nd rfl (Or.inl rfl) (se_callTy call_tuple_of ok_tuple (sa_cons (se_lc (m := false) (own := [("word", 2)]) rfl sc_parse_form.nd (blkOk_by (N := ["text", "form", "word"]) (sc := defScope s_parse_form) (by decide +kernel)) (by decide) (si_seq (se_split (se_var (pv 0)) (sa_cons (se_str) (sa_nil)))) (fun _ _ _ _ _ => pg_name (i := 2) sc_parse_form.nd rfl (Or.inl rfl)) tgk_name (fun _ _ _ _ _ => spt_nil) (fun _ _ _ _ _ => se_call (fn_pure G_parsed_level) rfl takes0 (hr.mono (by decide)) D_parsed_level.m D_parsed_level.F.kp D_parsed_level.b (sa_cons (se_var (pv 2)) (sa_nil)) (len_cons len_nil))) (sa_nil)) rfl T.n_tuple bt_tuple))
    (ss_cons (ss_if (st_bool (sw_or (st_not (st_val (se_call (fn_pure G_is_form) rfl tk (hr.mono (by decide)) D_is_form.m D_is_form.F.kp D_is_form.b (sa_cons (se_var (pv 1)) (sa_nil)) (len_cons len_nil)))) (sw_or1 (st_cmp (opr_ne hr) ok_ne (se_call (fn_pure G_formatted) rfl tk (hr.mono (by decide)) D_formatted.m D_formatted.F.kp D_formatted.b (sa_cons (se_var (pv 1)) (sa_nil)) (len_cons len_nil)) (se_var (pv 0)))))) (ss_one (ss_raise E6 rfl tk)) (ss_nil))
    (ss_one (ss_ret (se_var (pv 1))))))
abbrev s_need_match : Stmt := top 28
theorem sc_need_match : FnScope ["form", "row"] ["form", "row"] (defScope s_need_match) := ⟨rfl, rfl, rfl, by decide +kernel, rfl, by decide +kernel, by decide +kernel⟩
theorem ok_need_match {f : Addr} {fd : FuncData} (F : Fun K "need_match" "need_match" s_need_match f fd) (T : TX mg) {a_need_form : Addr} {fd_need_form : FuncData} (D_need_form : Df K mg "need_form" s_need_form ["value"] a_need_form fd_need_form) (G_need_form : FnOk P w K mg base (L2.CX P w) 4 a_need_form fd_need_form ["value"] (spOf ⟨P, w, K⟩ xm 1 f_need_form)) {a_need_row : Addr} {fd_need_row : FuncData} (D_need_row : Df K mg "need_row" s_need_row ["value"] a_need_row fd_need_row) (G_need_row : FnOk P w K mg base (L2.CX P w) 3 a_need_row fd_need_row ["value"] (spOf ⟨P, w, K⟩ xm 1 f_need_row)) : FnOk P w K mg base (L2.CX P w) 5 f fd ["form", "row"] (spOf ⟨P, w, K⟩ xm 2 f_need_match) :=
  fn_ok (N := ["form", "row"]) (m := false) (b := b_need_match) xm F sc_need_match fun cdv A outer s H E W hr tk =>
    ss_cons (ss_expr (se_call (fn_pure G_need_form) rfl tk (hr.mono (by decide)) D_need_form.m D_need_form.F.kp D_need_form.b (sa_cons (se_var (pv 0)) (sa_nil)) (len_cons len_nil)))
    (ss_one (ss_expr (se_call (fn_pure G_need_row) rfl tk (hr.mono (by decide)) D_need_row.m D_need_row.F.kp D_need_row.b (sa_cons (se_var (pv 1)) (sa_nil)) (len_cons len_nil))))
abbrev s_shortest : Stmt := top 42
theorem sc_shortest : FnScope ["form", "many", "level"] ["form"] (defScope s_shortest) := ⟨rfl, rfl, rfl, by decide +kernel, rfl, by decide +kernel, by decide +kernel⟩
theorem ok_shortest {f : Addr} {fd : FuncData} (F : Fun K "shortest" "shortest" s_shortest f fd) (T : TX mg) {a_need_form : Addr} {fd_need_form : FuncData} (D_need_form : Df K mg "need_form" s_need_form ["value"] a_need_form fd_need_form) (G_need_form : FnOk P w K mg base (L2.CX P w) 4 a_need_form fd_need_form ["value"] (spOf ⟨P, w, K⟩ xm 1 f_need_form)) {a_least_units : Addr} {fd_least_units : FuncData} (D_least_units : Df K mg "least_units" s_least_units ["level"] a_least_units fd_least_units) (G_least_units : FnOk P w K mg base (L2.CX P w) 1 a_least_units fd_least_units ["level"] (spOf ⟨P, w, K⟩ xm 1 f_least_units)) : FnOk P w K mg base (L2.CX P w) 5 f fd ["form"] (spOf ⟨P, w, K⟩ xm 1 f_shortest) :=
  fn_ok (N := ["form", "many", "level"]) (m := false) (b := b_shortest) xm F sc_shortest fun cdv A outer s H E W hr tk =>
    ss_cons (ss_expr (se_call (fn_pure G_need_form) rfl tk (hr.mono (by decide)) D_need_form.m D_need_form.F.kp D_need_form.b (sa_cons (se_var (pv 0)) (sa_nil)) (len_cons len_nil)))
    (ss_cons (ss_set (i := 1) sc_shortest.nd rfl (Or.inl rfl) (se_int))
    (ss_cons (ss_for (passes_of rfl) rfl (si_seq (se_var (pv 0))) (sg_name (pg_name (i := 2) sc_shortest.nd rfl (Or.inl rfl))) (ss_one (ss_aug (i := 1) sc_shortest.nd rfl (Or.inl rfl) opr_imul ok_mulI (se_call (fn_pure G_least_units) rfl tk (hr.mono (by decide)) D_least_units.m D_least_units.F.kp D_least_units.b (sa_cons (se_var (pv 2)) (sa_nil)) (len_cons len_nil)))))
    (ss_one (ss_ret (se_var (pv 1))))))
abbrev s_longest : Stmt := top 43
theorem sc_longest : FnScope ["form", "many", "level", "units"] ["form"] (defScope s_longest) := ⟨rfl, rfl, rfl, by decide +kernel, rfl, by decide +kernel, by decide +kernel⟩
theorem ok_longest {f : Addr} {fd : FuncData} (F : Fun K "longest" "longest" s_longest f fd) (T : TX mg) {a_need_form : Addr} {fd_need_form : FuncData} (D_need_form : Df K mg "need_form" s_need_form ["value"] a_need_form fd_need_form) (G_need_form : FnOk P w K mg base (L2.CX P w) 4 a_need_form fd_need_form ["value"] (spOf ⟨P, w, K⟩ xm 1 f_need_form)) {a_most_units : Addr} {fd_most_units : FuncData} (D_most_units : Df K mg "most_units" s_most_units ["level"] a_most_units fd_most_units) (G_most_units : FnOk P w K mg base (L2.CX P w) 3 a_most_units fd_most_units ["level"] (spOf ⟨P, w, K⟩ xm 1 f_most_units)) : FnOk P w K mg base (L2.CX P w) 5 f fd ["form"] (spOf ⟨P, w, K⟩ xm 1 f_longest) :=
  fn_ok (N := ["form", "many", "level", "units"]) (m := false) (b := b_longest) xm F sc_longest fun cdv A outer s H E W hr tk =>
    ss_cons (ss_expr (se_call (fn_pure G_need_form) rfl tk (hr.mono (by decide)) D_need_form.m D_need_form.F.kp D_need_form.b (sa_cons (se_var (pv 0)) (sa_nil)) (len_cons len_nil)))
    (ss_cons (ss_set (i := 1) sc_longest.nd rfl (Or.inl rfl) (se_int))
    (ss_cons (ss_for (passes_of rfl) rfl (si_seq (se_var (pv 0))) (sg_name (pg_name (i := 2) sc_longest.nd rfl (Or.inl rfl))) (ss_cons (ss_set (i := 3) sc_longest.nd rfl (Or.inl rfl) (se_call (fn_pure G_most_units) rfl tk (hr.mono (by decide)) D_most_units.m D_most_units.F.kp D_most_units.b (sa_cons (se_var (pv 2)) (sa_nil)) (len_cons len_nil)))
    (ss_cons (ss_if (st_cmp opr_is ok_is (se_var (pv 3)) (se_non)) (ss_one (ss_ret (se_non))) (ss_nil))
    (ss_one (ss_aug (i := 1) sc_longest.nd rfl (Or.inl rfl) opr_imul ok_mulI (se_var (pv 3)))))))
    (ss_one (ss_ret (se_var (pv 1))))))
abbrev s_surplus : Stmt := top 46
theorem sc_surplus : FnScope ["form", "found"] ["form"] (defScope s_surplus) := ⟨rfl, rfl, rfl, by decide +kernel, rfl, by decide +kernel, by decide +kernel⟩
theorem ok_surplus {f : Addr} {fd : FuncData} (F : Fun K "surplus" "surplus" s_surplus f fd) (T : TX mg) {a_need_form : Addr} {fd_need_form : FuncData} (D_need_form : Df K mg "need_form" s_need_form ["value"] a_need_form fd_need_form) (G_need_form : FnOk P w K mg base (L2.CX P w) 4 a_need_form fd_need_form ["value"] (spOf ⟨P, w, K⟩ xm 1 f_need_form)) {a_surpluses : Addr} {fd_surpluses : FuncData} (D_surpluses : Df K mg "surpluses" s_surpluses ["form"] a_surpluses fd_surpluses) (G_surpluses : FnOk P w K mg base (L2.CX P w) 4 a_surpluses fd_surpluses ["form"] (spOf ⟨P, w, K⟩ xm 1 f_surpluses)) : FnOk P w K mg base (L2.CX P w) 5 f fd ["form"] (spOf ⟨P, w, K⟩ xm 1 f_surplus) :=
  fn_ok (N := ["form", "found"]) (m := false) (b := b_surplus) xm F sc_surplus fun cdv A outer s H E W hr tk =>
    ss_cons (ss_expr (se_call (fn_pure G_need_form) rfl tk (hr.mono (by decide)) D_need_form.m D_need_form.F.kp D_need_form.b (sa_cons (se_var (pv 0)) (sa_nil)) (len_cons len_nil)))
    (ss_cons (ss_set (i := 1) sc_surplus.nd rfl (Or.inl rfl) (se_call (fn_pure G_surpluses) rfl tk (hr.mono (by decide)) D_surpluses.m D_surpluses.F.kp D_surpluses.b (sa_cons (se_var (pv 0)) (sa_nil)) (len_cons len_nil)))
    (ss_one (ss_ret (se_if (st_cmp opr_is ok_is (se_var (pv 1)) (se_non)) (se_non) (se_ix ixr ok_ix (se_ix ixr ok_ix (se_ix ixr ok_ix (se_var (pv 1)) (se_un un_neg ok_neg (se_int))) (se_int)) (se_int))))))
abbrev s_surplus_row : Stmt := top 48
theorem sc_surplus_row : FnScope ["form", "found"] ["form"] (defScope s_surplus_row) := ⟨rfl, rfl, rfl, by decide +kernel, rfl, by decide +kernel, by decide +kernel⟩
theorem ok_surplus_row {f : Addr} {fd : FuncData} (F : Fun K "surplus_row" "surplus_row" s_surplus_row f fd) (T : TX mg) {a_need_form : Addr} {fd_need_form : FuncData} (D_need_form : Df K mg "need_form" s_need_form ["value"] a_need_form fd_need_form) (G_need_form : FnOk P w K mg base (L2.CX P w) 4 a_need_form fd_need_form ["value"] (spOf ⟨P, w, K⟩ xm 1 f_need_form)) {a_surpluses : Addr} {fd_surpluses : FuncData} (D_surpluses : Df K mg "surpluses" s_surpluses ["form"] a_surpluses fd_surpluses) (G_surpluses : FnOk P w K mg base (L2.CX P w) 4 a_surpluses fd_surpluses ["form"] (spOf ⟨P, w, K⟩ xm 1 f_surpluses)) {a_points_of : Addr} {fd_points_of : FuncData} (D_points_of : Df K mg "points_of" s_points_of ["found", "at", "side"] a_points_of fd_points_of) (G_points_of : FnOk P w K mg base (L2.CX P w) 4 a_points_of fd_points_of ["found", "at", "side"] (spOf ⟨P, w, K⟩ xm 3 (f_points_of 4))) : FnOk P w K mg base (L2.CX P w) 5 f fd ["form"] (spOf ⟨P, w, K⟩ xm 1 f_surplus_row) :=
  fn_ok (N := ["form", "found"]) (m := false) (b := b_surplus_row) xm F sc_surplus_row fun cdv A outer s H E W hr tk =>
    ss_cons (ss_expr (se_call (fn_pure G_need_form) rfl tk (hr.mono (by decide)) D_need_form.m D_need_form.F.kp D_need_form.b (sa_cons (se_var (pv 0)) (sa_nil)) (len_cons len_nil)))
    (ss_cons (ss_set (i := 1) sc_surplus_row.nd rfl (Or.inl rfl) (se_call (fn_pure G_surpluses) rfl tk (hr.mono (by decide)) D_surpluses.m D_surpluses.F.kp D_surpluses.b (sa_cons (se_var (pv 0)) (sa_nil)) (len_cons len_nil)))
    (ss_one (ss_ret (se_if (st_cmp opr_is ok_is (se_var (pv 1)) (se_non)) (se_non) (se_call (fn_pure G_points_of) rfl tk (hr.mono (by decide)) D_points_of.m D_points_of.F.kp D_points_of.b (sa_cons (se_var (pv 1)) (sa_cons (se_bin op_sub ok_sub (se_callB call_len ok_len (sa_cons (se_var (pv 0)) (sa_nil)) rfl T.n_len bt_len) (se_int)) (sa_cons (se_int) (sa_nil)))) (len_cons (len_cons (len_cons len_nil))))))))
abbrev s_Board___init__ : Stmt := inClass (top 50) 0
theorem sc_Board___init__ : FnScope ["self", "form"] ["self", "form"] (defScope s_Board___init__) := ⟨rfl, rfl, rfl, by decide +kernel, rfl, by decide +kernel, by decide +kernel⟩
theorem ok_Board___init__ {f : Addr} {fd : FuncData} (F : Fun K "__init__" "Board.__init__" s_Board___init__ f fd) (T : TX mg) {C : Addr} (Bc : Bdx K mg C) {a_need_form : Addr} {fd_need_form : FuncData} (D_need_form : Df K mg "need_form" s_need_form ["value"] a_need_form fd_need_form) (G_need_form : FnOk P w K mg base (L2.CX P w) 4 a_need_form fd_need_form ["value"] (spOf ⟨P, w, K⟩ xm 1 f_need_form)) : FnOk P w K mg base (L2.CX P w) 5 f fd ["self", "form"] (spOf ⟨P, w, K⟩ xm 2 f_Board___init__) :=
  fn_okK (N := ["self", "form"]) (b := b_Board___init__) xm F sc_Board___init__ fun cdv A outer s H E W hr tk =>
    ss_cons (ss_expr (se_call (fn_pure G_need_form) rfl tk (hr.mono (by decide)) D_need_form.m D_need_form.F.kp D_need_form.b (sa_cons (se_var (pv 1)) (sa_nil)) (len_cons len_nil)))
    (ss_cons (ss_fld Bc.b (se_var (pv 0)) (se_var (pv 1)))
    (ss_one (ss_fld Bc.b (se_var (pv 0)) (se_lst (m := true) (sa_nil)))))
abbrev s_Board_point : Stmt := inClass (top 50) 1
theorem sc_Board_point : FnScope ["self", "side"] ["self", "side"] (defScope s_Board_point) := ⟨rfl, rfl, rfl, by decide +kernel, rfl, by decide +kernel, by decide +kernel⟩
theorem ok_Board_point {f : Addr} {fd : FuncData} (F : Fun K "point" "Board.point" s_Board_point f fd) (T : TX mg) {C : Addr} (Bc : Bdx K mg C) {a_need_side : Addr} {fd_need_side : FuncData} (D_need_side : Df K mg "need_side" s_need_side ["value"] a_need_side fd_need_side) (G_need_side : FnOk P w K mg base (L2.CX P w) 3 a_need_side fd_need_side ["value"] (spOf ⟨P, w, K⟩ xm 1 f_need_side)) {a_Board_winner : Addr} {fd_Board_winner : FuncData} (D_Board_winner : Dm K C "winner" "Board.winner" s_Board_winner ["self"] a_Board_winner fd_Board_winner) (G_Board_winner : FnOk P w K mg base (L2.CX P w) 4 a_Board_winner fd_Board_winner ["self"] (spOf ⟨P, w, K⟩ xm 1 f_Board_winner)) : FnOk P w K mg base (L2.CX P w) 5 f fd ["self", "side"] (spOf ⟨P, w, K⟩ xm 2 f_Board_point) :=
  fn_ok (N := ["self", "side"]) (m := false) (b := b_Board_point) xm F sc_Board_point fun cdv A outer s H E W hr tk =>
    ss_cons (ss_expr (se_call (fn_pure G_need_side) rfl tk (hr.mono (by decide)) D_need_side.m D_need_side.F.kp D_need_side.b (sa_cons (se_var (pv 1)) (sa_nil)) (len_cons len_nil)))
    (ss_cons (ss_if (st_cmp opr_isN ok_isN (se_meth0 Bc.b D_Board_winner G_Board_winner tk (hr.mono (by decide)) (se_var (pv 0))) (se_non)) (ss_one (ss_bad)) (ss_nil))
    (ss_cons (ss_expr (se_append (se_fld Bc.b (se_var (pv 0))) (sa_cons (se_var (pv 1)) (sa_nil))))
    (ss_one (ss_ret (se_meth0 Bc.b D_Board_winner G_Board_winner tk (hr.mono (by decide)) (se_var (pv 0)))))))
abbrev s_Board_undo : Stmt := inClass (top 50) 2
theorem sc_Board_undo : FnScope ["self"] ["self"] (defScope s_Board_undo) := ⟨rfl, rfl, rfl, by decide +kernel, rfl, by decide +kernel, by decide +kernel⟩
theorem ok_Board_undo {f : Addr} {fd : FuncData} (F : Fun K "undo" "Board.undo" s_Board_undo f fd) (T : TX mg) {C : Addr} (Bc : Bdx K mg C) {C5 : Addr} (E5 : EC K mg xm "NothingToUndo" 5 C5) {a_Board_score : Addr} {fd_Board_score : FuncData} (D_Board_score : Dm K C "score" "Board.score" s_Board_score ["self"] a_Board_score fd_Board_score) (G_Board_score : FnOk P w K mg base (L2.CX P w) 4 a_Board_score fd_Board_score ["self"] (spOf ⟨P, w, K⟩ xm 1 f_Board_score)) : FnOk P w K mg base (L2.CX P w) 5 f fd ["self"] (spOf ⟨P, w, K⟩ xm 1 f_Board_undo) :=
  fn_ok (N := ["self"]) (m := false) (b := b_Board_undo) xm F sc_Board_undo fun cdv A outer s H E W hr tk =>
    ss_cons (ss_if (st_cmp (opr_eq hr) ok_eq (se_fld Bc.b (se_var (pv 0))) (se_lst (m := false) (sa_nil))) (ss_one (ss_raise E5 rfl tk)) (ss_nil))
    (ss_cons (ss_expr (se_pop (se_fld Bc.b (se_var (pv 0)))))
    (ss_one (ss_ret (se_meth0 Bc.b D_Board_score G_Board_score tk (hr.mono (by decide)) (se_var (pv 0))))))
abbrev s_chance : Stmt := top 60
theorem sc_chance : FnScope ["form", "point", "found", "level"] ["form", "point"] (defScope s_chance) := ⟨rfl, rfl, rfl, by decide +kernel, rfl, by decide +kernel, by decide +kernel⟩
theorem ok_chance {f : Addr} {fd : FuncData} (F : Fun K "chance" "chance" s_chance f fd) (T : TX mg) {a_need_form : Addr} {fd_need_form : FuncData} (D_need_form : Df K mg "need_form" s_need_form ["value"] a_need_form fd_need_form) (G_need_form : FnOk P w K mg base (L2.CX P w) 4 a_need_form fd_need_form ["value"] (spOf ⟨P, w, K⟩ xm 1 f_need_form)) {a_lowest : Addr} {fd_lowest : FuncData} (D_lowest : Df K mg "lowest" s_lowest ["numerator", "denominator"] a_lowest fd_lowest) (G_lowest : FnOk P w K mg base (L2.CX P w) 1 a_lowest fd_lowest ["numerator", "denominator"] (spOf ⟨P, w, K⟩ xm 2 f_lowest)) {a_round_of : Addr} {fd_round_of : FuncData} (D_round_of : Df K mg "round_of" s_round_of ["level", "chance"] a_round_of fd_round_of) (G_round_of : FnOk P w K mg base (L2.CX P w) 4 a_round_of fd_round_of ["level", "chance"] (spOf ⟨P, w, K⟩ xm 2 f_round_of)) {a_need_chance : Addr} {fd_need_chance : FuncData} (D_need_chance : Df K mg "need_chance" s_need_chance ["value"] a_need_chance fd_need_chance) (G_need_chance : FnOk P w K mg base (L2.CX P w) 2 a_need_chance fd_need_chance ["value"] (spOf ⟨P, w, K⟩ xm 1 f_need_chance)) : FnOk P w K mg base (L2.CX P w) 5 f fd ["form", "point"] (spOf ⟨P, w, K⟩ xm 2 f_chance) :=
  fn_ok (N := ["form", "point", "found", "level"]) (m := false) (b := b_chance) xm F sc_chance fun cdv A outer s H E W hr tk =>
    ss_cons (ss_expr (se_call (fn_pure G_need_form) rfl tk (hr.mono (by decide)) D_need_form.m D_need_form.F.kp D_need_form.b (sa_cons (se_var (pv 0)) (sa_nil)) (len_cons len_nil)))
    (ss_cons (ss_expr (se_call (fn_pure G_need_chance) rfl tk (hr.mono (by decide)) D_need_chance.m D_need_chance.F.kp D_need_chance.b (sa_cons (se_var (pv 1)) (sa_nil)) (len_cons len_nil)))
    (ss_cons (ss_set (i := 2) sc_chance.nd rfl (Or.inl rfl) (se_call (fn_pure G_lowest) rfl tk (hr.mono (by decide)) D_lowest.m D_lowest.F.kp D_lowest.b (sa_cons (se_ix ixr ok_ix (se_var (pv 1)) (se_int)) (sa_cons (se_ix ixr ok_ix (se_var (pv 1)) (se_int)) (sa_nil))) (len_cons (len_cons len_nil))))
    (ss_cons (ss_for (passes_of rfl) rfl (si_seq (se_var (pv 0))) (sg_name (pg_name (i := 3) sc_chance.nd rfl (Or.inl rfl))) (ss_one (ss_set (i := 2) sc_chance.nd rfl (Or.inl rfl) (se_ix ixr ok_ix (se_call (fn_pure G_round_of) rfl tk (hr.mono (by decide)) D_round_of.m D_round_of.F.kp D_round_of.b (sa_cons (se_var (pv 3)) (sa_cons (se_var (pv 2)) (sa_nil))) (len_cons (len_cons len_nil))) (se_int)))))
    (ss_one (ss_ret (se_var (pv 2)))))))
abbrev s_expectation : Stmt := top 61
theorem sc_expectation : FnScope ["form", "point", "found", "many", "level", "units"] ["form", "point"] (defScope s_expectation) := ⟨rfl, rfl, rfl, by decide +kernel, rfl, by decide +kernel, by decide +kernel⟩
theorem ok_expectation {f : Addr} {fd : FuncData} (F : Fun K "expectation" "expectation" s_expectation f fd) (T : TX mg) {a_need_form : Addr} {fd_need_form : FuncData} (D_need_form : Df K mg "need_form" s_need_form ["value"] a_need_form fd_need_form) (G_need_form : FnOk P w K mg base (L2.CX P w) 4 a_need_form fd_need_form ["value"] (spOf ⟨P, w, K⟩ xm 1 f_need_form)) {a_lowest : Addr} {fd_lowest : FuncData} (D_lowest : Df K mg "lowest" s_lowest ["numerator", "denominator"] a_lowest fd_lowest) (G_lowest : FnOk P w K mg base (L2.CX P w) 1 a_lowest fd_lowest ["numerator", "denominator"] (spOf ⟨P, w, K⟩ xm 2 f_lowest)) {a_times : Addr} {fd_times : FuncData} (D_times : Df K mg "times" s_times ["one", "two"] a_times fd_times) (G_times : FnOk P w K mg base (L2.CX P w) 2 a_times fd_times ["one", "two"] (spOf ⟨P, w, K⟩ xm 2 f_times)) {a_round_of : Addr} {fd_round_of : FuncData} (D_round_of : Df K mg "round_of" s_round_of ["level", "chance"] a_round_of fd_round_of) (G_round_of : FnOk P w K mg base (L2.CX P w) 4 a_round_of fd_round_of ["level", "chance"] (spOf ⟨P, w, K⟩ xm 2 f_round_of)) {a_need_chance : Addr} {fd_need_chance : FuncData} (D_need_chance : Df K mg "need_chance" s_need_chance ["value"] a_need_chance fd_need_chance) (G_need_chance : FnOk P w K mg base (L2.CX P w) 2 a_need_chance fd_need_chance ["value"] (spOf ⟨P, w, K⟩ xm 1 f_need_chance)) : FnOk P w K mg base (L2.CX P w) 5 f fd ["form", "point"] (spOf ⟨P, w, K⟩ xm 2 f_expectation) :=
  fn_ok (N := ["form", "point", "found", "many", "level", "units"]) (m := false) (b := b_expectation) xm F sc_expectation fun cdv A outer s H E W hr tk =>
    ss_cons (ss_expr (se_call (fn_pure G_need_form) rfl tk (hr.mono (by decide)) D_need_form.m D_need_form.F.kp D_need_form.b (sa_cons (se_var (pv 0)) (sa_nil)) (len_cons len_nil)))
    (ss_cons (ss_expr (se_call (fn_pure G_need_chance) rfl tk (hr.mono (by decide)) D_need_chance.m D_need_chance.F.kp D_need_chance.b (sa_cons (se_var (pv 1)) (sa_nil)) (len_cons len_nil)))
    (ss_cons (ss_par2s (i := 2) (j := 3) rfl sc_expectation.nd (sa_cons (se_call (fn_pure G_lowest) rfl tk (hr.mono (by decide)) D_lowest.m D_lowest.F.kp D_lowest.b (sa_cons (se_ix ixr ok_ix (se_var (pv 1)) (se_int)) (sa_cons (se_ix ixr ok_ix (se_var (pv 1)) (se_int)) (sa_nil))) (len_cons (len_cons len_nil))) (sa_cons (se_tup (sa_cons (se_int) (sa_cons (se_int) (sa_nil)))) (sa_nil))) (by decide))
    (ss_cons (ss_for (passes_of rfl) rfl (si_seq (se_var (pv 0))) (sg_name (pg_name (i := 4) sc_expectation.nd rfl (Or.inl rfl))) (ss_cons (ss_asgT (sg_tup (n := 2) (sgs_cons (pg_name (i := 2) sc_expectation.nd rfl (Or.inl rfl)) (sgs_cons (pg_name (i := 5) sc_expectation.nd rfl (Or.inl rfl)) (sgs_nil))) rfl rfl) (se_call (fn_pure G_round_of) rfl tk (hr.mono (by decide)) D_round_of.m D_round_of.F.kp D_round_of.b (sa_cons (se_var (pv 4)) (sa_cons (se_var (pv 2)) (sa_nil))) (len_cons (len_cons len_nil))))
    (ss_one (ss_set (i := 3) sc_expectation.nd rfl (Or.inl rfl) (se_call (fn_pure G_times) rfl tk (hr.mono (by decide)) D_times.m D_times.F.kp D_times.b (sa_cons (se_var (pv 3)) (sa_cons (se_var (pv 5)) (sa_nil))) (len_cons (len_cons len_nil)))))))
    (ss_one (ss_ret (se_var (pv 3)))))))
abbrev s_format_form : Stmt := top 65
theorem sc_format_form : FnScope ["form"] ["form"] (defScope s_format_form) := ⟨rfl, rfl, rfl, by decide +kernel, rfl, by decide +kernel, by decide +kernel⟩
theorem ok_format_form {f : Addr} {fd : FuncData} (F : Fun K "format_form" "format_form" s_format_form f fd) (T : TX mg) {a_need_form : Addr} {fd_need_form : FuncData} (D_need_form : Df K mg "need_form" s_need_form ["value"] a_need_form fd_need_form) (G_need_form : FnOk P w K mg base (L2.CX P w) 4 a_need_form fd_need_form ["value"] (spOf ⟨P, w, K⟩ xm 1 f_need_form)) {a_formatted : Addr} {fd_formatted : FuncData} (D_formatted : Df K mg "formatted" s_formatted ["form"] a_formatted fd_formatted) (G_formatted : FnOk P w K mg base (L2.CX P w) 1 a_formatted fd_formatted ["form"] (spOf ⟨P, w, K⟩ xm 1 f_formatted)) : FnOk P w K mg base (L2.CX P w) 5 f fd ["form"] (spOf ⟨P, w, K⟩ xm 1 f_format_form) :=
  fn_ok (N := ["form"]) (m := false) (b := b_format_form) xm F sc_format_form fun cdv A outer s H E W hr tk =>
    ss_cons (ss_expr (se_call (fn_pure G_need_form) rfl tk (hr.mono (by decide)) D_need_form.m D_need_form.F.kp D_need_form.b (sa_cons (se_var (pv 0)) (sa_nil)) (len_cons len_nil)))
    (ss_one (ss_ret (se_call (fn_pure G_formatted) rfl tk (hr.mono (by decide)) D_formatted.m D_formatted.F.kp D_formatted.b (sa_cons (se_var (pv 0)) (sa_nil)) (len_cons len_nil))))
abbrev s_parting : Stmt := top 71
theorem sc_parting : FnScope ["form", "other", "start", "sources", "level", "later", "key", "side", "one", "two", "reached"] ["form", "other"] (defScope s_parting) := ⟨rfl, rfl, rfl, by decide +kernel, rfl, by decide +kernel, by decide +kernel⟩
theorem ok_parting {f : Addr} {fd : FuncData} (F : Fun K "parting" "parting" s_parting f fd) (T : TX mg) {a_need_form : Addr} {fd_need_form : FuncData} (D_need_form : Df K mg "need_form" s_need_form ["value"] a_need_form fd_need_form) (G_need_form : FnOk P w K mg base (L2.CX P w) 4 a_need_form fd_need_form ["value"] (spOf ⟨P, w, K⟩ xm 1 f_need_form)) {a_start_of : Addr} {fd_start_of : FuncData} (D_start_of : Df K mg "start_of" s_start_of ["form"] a_start_of fd_start_of) (G_start_of : FnOk P w K mg base (L2.CX P w) 1 a_start_of fd_start_of ["form"] (spOf ⟨P, w, K⟩ xm 1 f_start_of)) {a_after : Addr} {fd_after : FuncData} (D_after : Df K mg "after" s_after ["form", "score", "side"] a_after fd_after) (G_after : FnOk P w K mg base (L2.CX P w) 2 a_after fd_after ["form", "score", "side"] (spOf ⟨P, w, K⟩ xm 3 f_after)) {a_settled : Addr} {fd_settled : FuncData} (D_settled : Df K mg "settled" s_settled ["form", "now"] a_settled fd_settled) (G_settled : FnOk P w K mg base (L2.CX P w) 1 a_settled fd_settled ["form", "now"] (spOf ⟨P, w, K⟩ xm 2 f_settled)) {a_row_to : Addr} {fd_row_to : FuncData} (D_row_to : Df K mg "row_to" s_row_to ["sources", "key"] a_row_to fd_row_to) (G_row_to : FnOk P w K mg base (L2.CX P w) 1 a_row_to fd_row_to ["sources", "key"] (spOf ⟨P, w, K⟩ xm 2 f_row_to)) : FnOk P w K mg base (L2.CX P w) 5 f fd ["form", "other"] (spOf ⟨P, w, K⟩ xm 2 f_parting) :=
  fn_ok (N := ["form", "other", "start", "sources", "level", "later", "key", "side", "one", "two", "reached"]) (m := false) (b := b_parting) xm F sc_parting fun cdv A outer s H E W hr tk =>
    ss_cons (ss_expr (se_call (fn_pure G_need_form) rfl tk (hr.mono (by decide)) D_need_form.m D_need_form.F.kp D_need_form.b (sa_cons (se_var (pv 0)) (sa_nil)) (len_cons len_nil)))
    (ss_cons (ss_expr (se_call (fn_pure G_need_form) rfl tk (hr.mono (by decide)) D_need_form.m D_need_form.F.kp D_need_form.b (sa_cons (se_var (pv 1)) (sa_nil)) (len_cons len_nil)))
    (ss_cons (ss_set (i := 2) sc_parting.nd rfl (Or.inl rfl) (se_tup (sa_cons (se_call (fn_pure G_start_of) rfl tk (hr.mono (by decide)) D_start_of.m D_start_of.F.kp D_start_of.b (sa_cons (se_var (pv 0)) (sa_nil)) (len_cons len_nil)) (sa_cons (se_call (fn_pure G_start_of) rfl tk (hr.mono (by decide)) D_start_of.m D_start_of.F.kp D_start_of.b (sa_cons (se_var (pv 1)) (sa_nil)) (len_cons len_nil)) (sa_nil)))))
    (ss_cons (ss_par2s (i := 3) (j := 4) rfl sc_parting.nd (sa_cons (se_dct1 (hu9 hr) (se_var (pv 2)) (se_non)) (sa_cons (se_lst (m := false) (sa_cons (se_var (pv 2)) (sa_nil))) (sa_nil))) (by decide))
    (ss_cons (ss_while 100000 (passes_of rfl) (st_cmp (opr_ne hr) ok_ne (se_var (pv 4)) (se_lst (m := false) (sa_nil))) (ss_cons (ss_set (i := 5) sc_parting.nd rfl (Or.inl rfl) (se_lst (m := true) (sa_nil)))
    (ss_cons (ss_forD (passes_of rfl) rfl (se_var (pv 4)) (sg_name (pg_name (i := 6) sc_parting.nd rfl (Or.inl rfl))) (ss_one (ss_for (passes_of rfl) rfl (si_seq (se_tup (sa_cons (se_int) (sa_cons (se_int) (sa_nil))))) (sg_name (pg_name (i := 7) sc_parting.nd rfl (Or.inl rfl))) (ss_cons (ss_par2s (i := 8) (j := 9) rfl sc_parting.nd (sa_cons (se_call (fn_pure G_after) rfl tk (hr.mono (by decide)) D_after.m D_after.F.kp D_after.b (sa_cons (se_var (pv 0)) (sa_cons (se_ix ixr ok_ix (se_var (pv 6)) (se_int)) (sa_cons (se_var (pv 7)) (sa_nil)))) (len_cons (len_cons (len_cons len_nil)))) (sa_cons (se_call (fn_pure G_after) rfl tk (hr.mono (by decide)) D_after.m D_after.F.kp D_after.b (sa_cons (se_var (pv 1)) (sa_cons (se_ix ixr ok_ix (se_var (pv 6)) (se_int)) (sa_cons (se_var (pv 7)) (sa_nil)))) (len_cons (len_cons (len_cons len_nil)))) (sa_nil))) (by decide))
    (ss_cons (ss_if (st_cmp (opr_ne hr) ok_ne (se_ix ixr ok_ix (se_var (pv 8)) (se_int)) (se_ix ixr ok_ix (se_var (pv 9)) (se_int))) (ss_one (ss_ret (se_bin opr_add (ok_add (m := false)) (se_call G_row_to rfl tk (hr.mono (by decide)) D_row_to.m D_row_to.F.kp D_row_to.b (sa_cons (se_var (pv 3)) (sa_cons (se_var (pv 6)) (sa_nil))) (len_cons (len_cons len_nil))) (se_lst (m := false) (sa_cons (se_var (pv 7)) (sa_nil)))))) (ss_nil))
    (ss_cons (ss_set (i := 10) sc_parting.nd rfl (Or.inl rfl) (se_tup (sa_cons (se_call (fn_pure G_settled) rfl tk (hr.mono (by decide)) D_settled.m D_settled.F.kp D_settled.b (sa_cons (se_var (pv 0)) (sa_cons (se_ix ixr ok_ix (se_var (pv 8)) (se_int)) (sa_nil))) (len_cons (len_cons len_nil))) (sa_cons (se_call (fn_pure G_settled) rfl tk (hr.mono (by decide)) D_settled.m D_settled.F.kp D_settled.b (sa_cons (se_var (pv 1)) (sa_cons (se_ix ixr ok_ix (se_var (pv 9)) (se_int)) (sa_nil))) (len_cons (len_cons len_nil))) (sa_nil)))))
    (ss_one (ss_if (st_bool (sw_and (st_cmp opr_is ok_is (se_ix ixr ok_ix (se_var (pv 8)) (se_int)) (se_non)) (sw_and1 (st_cmp (op_ninX (hu9 hr)) ok_ninX (se_var (pv 10)) (se_var (pv 3)))))) (ss_cons (ss_setX (hu9 hr) (se_tup (sa_cons (se_var (pv 6)) (sa_cons (se_var (pv 7)) (sa_nil)))) (se_var (pv 3)) (se_var (pv 10)))
    (ss_one (ss_expr (se_append (se_var (pv 5)) (sa_cons (se_var (pv 10)) (sa_nil)))))) (ss_nil)))))))))
    (ss_one (ss_set (i := 4) sc_parting.nd rfl (Or.inl rfl) (se_var (pv 5)))))))
    (ss_one (ss_ret (se_non)))))))
abbrev s_winner : Stmt := top 29
theorem sc_winner : FnScope ["form", "row"] ["form", "row"] (defScope s_winner) := ⟨rfl, rfl, rfl, by decide +kernel, rfl, by decide +kernel, by decide +kernel⟩
theorem ok_winner {f : Addr} {fd : FuncData} (F : Fun K "winner" "winner" s_winner f fd) (T : TX mg) {a_played : Addr} {fd_played : FuncData} (D_played : Df K mg "played" s_played ["form", "row"] a_played fd_played) (G_played : FnOk P w K mg base (L2.CX P w) 3 a_played fd_played ["form", "row"] (spOf ⟨P, w, K⟩ xm 2 f_played)) {a_need_match : Addr} {fd_need_match : FuncData} (D_need_match : Df K mg "need_match" s_need_match ["form", "row"] a_need_match fd_need_match) (G_need_match : FnOk P w K mg base (L2.CX P w) 5 a_need_match fd_need_match ["form", "row"] (spOf ⟨P, w, K⟩ xm 2 f_need_match)) : FnOk P w K mg base (L2.CX P w) 6 f fd ["form", "row"] (spOf ⟨P, w, K⟩ xm 2 f_winner) :=
  fn_ok (N := ["form", "row"]) (m := false) (b := b_winner) xm F sc_winner fun cdv A outer s H E W hr tk =>
    ss_cons (ss_expr (se_call (fn_pure G_need_match) rfl tk (hr.mono (by decide)) D_need_match.m D_need_match.F.kp D_need_match.b (sa_cons (se_var (pv 0)) (sa_cons (se_var (pv 1)) (sa_nil))) (len_cons (len_cons len_nil))))
    (ss_one (ss_ret (se_ix ixr ok_ix (se_call (fn_pure G_played) rfl tk (hr.mono (by decide)) D_played.m D_played.F.kp D_played.b (sa_cons (se_var (pv 0)) (sa_cons (se_var (pv 1)) (sa_nil))) (len_cons (len_cons len_nil))) (se_int))))
abbrev s_counted : Stmt := top 30
theorem sc_counted : FnScope ["form", "row"] ["form", "row"] (defScope s_counted) := ⟨rfl, rfl, rfl, by decide +kernel, rfl, by decide +kernel, by decide +kernel⟩
theorem ok_counted {f : Addr} {fd : FuncData} (F : Fun K "counted" "counted" s_counted f fd) (T : TX mg) {a_played : Addr} {fd_played : FuncData} (D_played : Df K mg "played" s_played ["form", "row"] a_played fd_played) (G_played : FnOk P w K mg base (L2.CX P w) 3 a_played fd_played ["form", "row"] (spOf ⟨P, w, K⟩ xm 2 f_played)) {a_need_match : Addr} {fd_need_match : FuncData} (D_need_match : Df K mg "need_match" s_need_match ["form", "row"] a_need_match fd_need_match) (G_need_match : FnOk P w K mg base (L2.CX P w) 5 a_need_match fd_need_match ["form", "row"] (spOf ⟨P, w, K⟩ xm 2 f_need_match)) : FnOk P w K mg base (L2.CX P w) 6 f fd ["form", "row"] (spOf ⟨P, w, K⟩ xm 2 f_counted) :=
  fn_ok (N := ["form", "row"]) (m := false) (b := b_counted) xm F sc_counted fun cdv A outer s H E W hr tk =>
    ss_cons (ss_expr (se_call (fn_pure G_need_match) rfl tk (hr.mono (by decide)) D_need_match.m D_need_match.F.kp D_need_match.b (sa_cons (se_var (pv 0)) (sa_cons (se_var (pv 1)) (sa_nil))) (len_cons (len_cons len_nil))))
    (ss_one (ss_ret (se_ix ixr ok_ix (se_call (fn_pure G_played) rfl tk (hr.mono (by decide)) D_played.m D_played.F.kp D_played.b (sa_cons (se_var (pv 0)) (sa_cons (se_var (pv 1)) (sa_nil))) (len_cons (len_cons len_nil))) (se_int))))
abbrev s_score : Stmt := top 31
theorem sc_score : FnScope ["form", "row"] ["form", "row"] (defScope s_score) := ⟨rfl, rfl, rfl, by decide +kernel, rfl, by decide +kernel, by decide +kernel⟩
theorem ok_score {f : Addr} {fd : FuncData} (F : Fun K "score" "score" s_score f fd) (T : TX mg) {a_played : Addr} {fd_played : FuncData} (D_played : Df K mg "played" s_played ["form", "row"] a_played fd_played) (G_played : FnOk P w K mg base (L2.CX P w) 3 a_played fd_played ["form", "row"] (spOf ⟨P, w, K⟩ xm 2 f_played)) {a_need_match : Addr} {fd_need_match : FuncData} (D_need_match : Df K mg "need_match" s_need_match ["form", "row"] a_need_match fd_need_match) (G_need_match : FnOk P w K mg base (L2.CX P w) 5 a_need_match fd_need_match ["form", "row"] (spOf ⟨P, w, K⟩ xm 2 f_need_match)) : FnOk P w K mg base (L2.CX P w) 6 f fd ["form", "row"] (spOf ⟨P, w, K⟩ xm 2 f_score) :=
  fn_ok (N := ["form", "row"]) (m := false) (b := b_score) xm F sc_score fun cdv A outer s H E W hr tk =>
    ss_cons (ss_expr (se_call (fn_pure G_need_match) rfl tk (hr.mono (by decide)) D_need_match.m D_need_match.F.kp D_need_match.b (sa_cons (se_var (pv 0)) (sa_cons (se_var (pv 1)) (sa_nil))) (len_cons (len_cons len_nil))))
    (ss_one (ss_ret (se_ix ixr ok_ix (se_call (fn_pure G_played) rfl tk (hr.mono (by decide)) D_played.m D_played.F.kp D_played.b (sa_cons (se_var (pv 0)) (sa_cons (se_var (pv 1)) (sa_nil))) (len_cons (len_cons len_nil))) (se_int))))
abbrev s_needs : Stmt := top 33
theorem sc_needs : FnScope ["form", "row", "side", "now", "won", "many"] ["form", "row", "side"] (defScope s_needs) := ⟨rfl, rfl, rfl, by decide +kernel, rfl, by decide +kernel, by decide +kernel⟩
theorem ok_needs {f : Addr} {fd : FuncData} (F : Fun K "needs" "needs" s_needs f fd) (T : TX mg) {a_need_side : Addr} {fd_need_side : FuncData} (D_need_side : Df K mg "need_side" s_need_side ["value"] a_need_side fd_need_side) (G_need_side : FnOk P w K mg base (L2.CX P w) 3 a_need_side fd_need_side ["value"] (spOf ⟨P, w, K⟩ xm 1 f_need_side)) {a_played : Addr} {fd_played : FuncData} (D_played : Df K mg "played" s_played ["form", "row"] a_played fd_played) (G_played : FnOk P w K mg base (L2.CX P w) 3 a_played fd_played ["form", "row"] (spOf ⟨P, w, K⟩ xm 2 f_played)) {a_need_match : Addr} {fd_need_match : FuncData} (D_need_match : Df K mg "need_match" s_need_match ["form", "row"] a_need_match fd_need_match) (G_need_match : FnOk P w K mg base (L2.CX P w) 5 a_need_match fd_need_match ["form", "row"] (spOf ⟨P, w, K⟩ xm 2 f_need_match)) {a_needs_at : Addr} {fd_needs_at : FuncData} (D_needs_at : Df K mg "needs_at" s_needs_at ["form", "now", "won", "side"] a_needs_at fd_needs_at) (G_needs_at : FnOk P w K mg base (L2.CX P w) 3 a_needs_at fd_needs_at ["form", "now", "won", "side"] (spOf ⟨P, w, K⟩ xm 4 f_needs_at)) : FnOk P w K mg base (L2.CX P w) 6 f fd ["form", "row", "side"] (spOf ⟨P, w, K⟩ xm 3 f_needs) :=
  fn_ok (N := ["form", "row", "side", "now", "won", "many"]) (m := false) (b := b_needs) xm F sc_needs fun cdv A outer s H E W hr tk =>
    ss_cons (ss_expr (se_call (fn_pure G_need_match) rfl tk (hr.mono (by decide)) D_need_match.m D_need_match.F.kp D_need_match.b (sa_cons (se_var (pv 0)) (sa_cons (se_var (pv 1)) (sa_nil))) (len_cons (len_cons len_nil))))
    (ss_cons (ss_expr (se_call (fn_pure G_need_side) rfl tk (hr.mono (by decide)) D_need_side.m D_need_side.F.kp D_need_side.b (sa_cons (se_var (pv 2)) (sa_nil)) (len_cons len_nil)))
    (ss_cons (ss_asgT (sg_tup (n := 3) (sgs_cons (pg_name (i := 3) sc_needs.nd rfl (Or.inl rfl)) (sgs_cons (pg_name (i := 4) sc_needs.nd rfl (Or.inl rfl)) (sgs_cons (pg_name (i := 5) sc_needs.nd rfl (Or.inl rfl)) (sgs_nil)))) rfl rfl) (se_call (fn_pure G_played) rfl tk (hr.mono (by decide)) D_played.m D_played.F.kp D_played.b (sa_cons (se_var (pv 0)) (sa_cons (se_var (pv 1)) (sa_nil))) (len_cons (len_cons len_nil))))
    (ss_one (ss_ret (se_call (fn_pure G_needs_at) rfl tk (hr.mono (by decide)) D_needs_at.m D_needs_at.F.kp D_needs_at.b (sa_cons (se_var (pv 0)) (sa_cons (se_var (pv 3)) (sa_cons (se_var (pv 4)) (sa_cons (se_var (pv 2)) (sa_nil))))) (len_cons (len_cons (len_cons (len_cons len_nil)))))))))
abbrev s_least : Stmt := top 36
theorem sc_least : FnScope ["form", "row", "side", "now", "won", "many", "scores", "seen", "later", "one", "reached", "end"] ["form", "row", "side"] (defScope s_least) := ⟨rfl, rfl, rfl, by decide +kernel, rfl, by decide +kernel, by decide +kernel⟩
theorem ok_least {f : Addr} {fd : FuncData} (F : Fun K "least" "least" s_least f fd) (T : TX mg) {a_need_side : Addr} {fd_need_side : FuncData} (D_need_side : Df K mg "need_side" s_need_side ["value"] a_need_side fd_need_side) (G_need_side : FnOk P w K mg base (L2.CX P w) 3 a_need_side fd_need_side ["value"] (spOf ⟨P, w, K⟩ xm 1 f_need_side)) {a_after : Addr} {fd_after : FuncData} (D_after : Df K mg "after" s_after ["form", "score", "side"] a_after fd_after) (G_after : FnOk P w K mg base (L2.CX P w) 2 a_after fd_after ["form", "score", "side"] (spOf ⟨P, w, K⟩ xm 3 f_after)) {a_played : Addr} {fd_played : FuncData} (D_played : Df K mg "played" s_played ["form", "row"] a_played fd_played) (G_played : FnOk P w K mg base (L2.CX P w) 3 a_played fd_played ["form", "row"] (spOf ⟨P, w, K⟩ xm 2 f_played)) {a_need_match : Addr} {fd_need_match : FuncData} (D_need_match : Df K mg "need_match" s_need_match ["form", "row"] a_need_match fd_need_match) (G_need_match : FnOk P w K mg base (L2.CX P w) 5 a_need_match fd_need_match ["form", "row"] (spOf ⟨P, w, K⟩ xm 2 f_need_match)) {a_settled : Addr} {fd_settled : FuncData} (D_settled : Df K mg "settled" s_settled ["form", "now"] a_settled fd_settled) (G_settled : FnOk P w K mg base (L2.CX P w) 1 a_settled fd_settled ["form", "now"] (spOf ⟨P, w, K⟩ xm 2 f_settled)) {a_with_losses : Addr} {fd_with_losses : FuncData} (D_with_losses : Df K mg "with_losses" s_with_losses ["form", "scores", "seen", "side"] a_with_losses fd_with_losses) (G_with_losses : FnOk P w K mg base (L2.CX P w) 3 a_with_losses fd_with_losses ["form", "scores", "seen", "side"] (spOf ⟨P, w, K⟩ xm 4 f_with_losses)) : FnOk P w K mg base (L2.CX P w) 6 f fd ["form", "row", "side"] (spOf ⟨P, w, K⟩ xm 3 f_least) :=
  fn_ok (N := ["form", "row", "side", "now", "won", "many", "scores", "seen", "later", "one", "reached", "end"]) (m := false) (b := b_least) xm F sc_least fun cdv A outer s H E W hr tk =>
    ss_cons (ss_expr (se_call (fn_pure G_need_match) rfl tk (hr.mono (by decide)) D_need_match.m D_need_match.F.kp D_need_match.b (sa_cons (se_var (pv 0)) (sa_cons (se_var (pv 1)) (sa_nil))) (len_cons (len_cons len_nil))))
    (ss_cons (ss_expr (se_call (fn_pure G_need_side) rfl tk (hr.mono (by decide)) D_need_side.m D_need_side.F.kp D_need_side.b (sa_cons (se_var (pv 2)) (sa_nil)) (len_cons len_nil)))
    (ss_cons (ss_asgT (sg_tup (n := 3) (sgs_cons (pg_name (i := 3) sc_least.nd rfl (Or.inl rfl)) (sgs_cons (pg_name (i := 4) sc_least.nd rfl (Or.inl rfl)) (sgs_cons (pg_name (i := 5) sc_least.nd rfl (Or.inl rfl)) (sgs_nil)))) rfl rfl) (se_call (fn_pure G_played) rfl tk (hr.mono (by decide)) D_played.m D_played.F.kp D_played.b (sa_cons (se_var (pv 0)) (sa_cons (se_var (pv 1)) (sa_nil))) (len_cons (len_cons len_nil))))
    (ss_cons (ss_if (st_cmp opr_isN ok_isN (se_var (pv 4)) (se_non)) (ss_one (ss_ret (se_if (st_cmp (opr_eq hr) ok_eq (se_var (pv 4)) (se_var (pv 2))) (se_int) (se_non)))) (ss_nil))
    (ss_cons (ss_par3s (i := 6) (j := 7) (l := 5) rfl sc_least.nd (sa_cons (se_lst (m := false) (sa_cons (se_call (fn_pure G_settled) rfl tk (hr.mono (by decide)) D_settled.m D_settled.F.kp D_settled.b (sa_cons (se_var (pv 0)) (sa_cons (se_var (pv 3)) (sa_nil))) (len_cons (len_cons len_nil))) (sa_nil))) (sa_cons (se_dct0) (sa_cons (se_int) (sa_nil)))) (by decide) (by decide) (by decide))
    (ss_cons (ss_while 100000 (passes_of rfl) (st_cmp opr_is ok_is (se_var (pv 4)) (se_non)) (ss_cons (ss_aug (i := 5) sc_least.nd rfl (Or.inl rfl) iop_add ok_addI (se_int))
    (ss_cons (ss_set (i := 8) sc_least.nd rfl (Or.inl rfl) (se_lst (m := true) (sa_nil)))
    (ss_cons (ss_for (passes_of rfl) rfl (si_seq (se_call G_with_losses rfl tk (hr.mono (by decide)) D_with_losses.m D_with_losses.F.kp D_with_losses.b (sa_cons (se_var (pv 0)) (sa_cons (se_var (pv 6)) (sa_cons (se_var (pv 7)) (sa_cons (se_var (pv 2)) (sa_nil))))) (len_cons (len_cons (len_cons (len_cons len_nil)))))) (sg_name (pg_name (i := 9) sc_least.nd rfl (Or.inl rfl))) (ss_cons (ss_asgT (sg_tup (n := 2) (sgs_cons (pg_name (i := 10) sc_least.nd rfl (Or.inl rfl)) (sgs_cons (pg_name (i := 11) sc_least.nd rfl (Or.inl rfl)) (sgs_nil))) rfl rfl) (se_call (fn_pure G_after) rfl tk (hr.mono (by decide)) D_after.m D_after.F.kp D_after.b (sa_cons (se_var (pv 0)) (sa_cons (se_var (pv 9)) (sa_cons (se_var (pv 2)) (sa_nil)))) (len_cons (len_cons (len_cons len_nil)))))
    (ss_one (ss_if (st_cmp opr_is ok_is (se_var (pv 11)) (se_non)) (ss_one (ss_expr (se_append (se_var (pv 8)) (sa_cons (se_call (fn_pure G_settled) rfl tk (hr.mono (by decide)) D_settled.m D_settled.F.kp D_settled.b (sa_cons (se_var (pv 0)) (sa_cons (se_var (pv 10)) (sa_nil))) (len_cons (len_cons len_nil))) (sa_nil))))) (ss_one (ss_set (i := 4) sc_least.nd rfl (Or.inl rfl) (se_var (pv 11))))))))
    (ss_one (ss_set (i := 6) sc_least.nd rfl (Or.inl rfl) (se_var (pv 8))))))))
    (ss_one (ss_ret (se_var (pv 5)))))))))
abbrev s_match_points : Stmt := top 37
theorem sc_match_points : FnScope ["form", "row", "now", "won", "many", "side"] ["form", "row"] (defScope s_match_points) := ⟨rfl, rfl, rfl, by decide +kernel, rfl, by decide +kernel, by decide +kernel⟩
theorem ok_match_points {f : Addr} {fd : FuncData} (F : Fun K "match_points" "match_points" s_match_points f fd) (T : TX mg) {a_played : Addr} {fd_played : FuncData} (D_played : Df K mg "played" s_played ["form", "row"] a_played fd_played) (G_played : FnOk P w K mg base (L2.CX P w) 3 a_played fd_played ["form", "row"] (spOf ⟨P, w, K⟩ xm 2 f_played)) {a_need_match : Addr} {fd_need_match : FuncData} (D_need_match : Df K mg "need_match" s_need_match ["form", "row"] a_need_match fd_need_match) (G_need_match : FnOk P w K mg base (L2.CX P w) 5 a_need_match fd_need_match ["form", "row"] (spOf ⟨P, w, K⟩ xm 2 f_need_match)) {a_needs_at : Addr} {fd_needs_at : FuncData} (D_needs_at : Df K mg "needs_at" s_needs_at ["form", "now", "won", "side"] a_needs_at fd_needs_at) (G_needs_at : FnOk P w K mg base (L2.CX P w) 3 a_needs_at fd_needs_at ["form", "now", "won", "side"] (spOf ⟨P, w, K⟩ xm 4 f_needs_at)) : FnOk P w K mg base (L2.CX P w) 6 f fd ["form", "row"] (spOf ⟨P, w, K⟩ xm 2 f_match_points) :=
  fn_ok (N := ["form", "row", "now", "won", "many", "side"]) (m := false) (b := b_match_points) xm F sc_match_points fun cdv A outer s H E W hr tk =>
    ss_cons (ss_expr (se_call (fn_pure G_need_match) rfl tk (hr.mono (by decide)) D_need_match.m D_need_match.F.kp D_need_match.b (sa_cons (se_var (pv 0)) (sa_cons (se_var (pv 1)) (sa_nil))) (len_cons (len_cons len_nil))))
    (ss_cons (ss_asgT (sg_tup (n := 3) (sgs_cons (pg_name (i := 2) sc_match_points.nd rfl (Or.inr rfl)) (sgs_cons (pg_name (i := 3) sc_match_points.nd rfl (Or.inr rfl)) (sgs_cons (pg_name (i := 4) sc_match_points.nd rfl (Or.inl rfl)) (sgs_nil)))) rfl rfl) (se_call (fn_pure G_played) rfl tk (hr.mono (by decide)) D_played.m D_played.F.kp D_played.b (sa_cons (se_var (pv 0)) (sa_cons (se_var (pv 1)) (sa_nil))) (len_cons (len_cons len_nil))))
    (ss_one (ss_ret (se_lc (m := false) (own := [("side", 5)]) rfl sc_match_points.nd (blkOk_by (N := ["form", "row", "now", "won", "many", "side"]) (sc := defScope s_match_points) (by decide +kernel)) (by decide) (si_seq (se_tup (sa_cons (se_int) (sa_cons (se_int) (sa_nil))))) (fun _ _ _ _ _ => pg_name (i := 5) sc_match_points.nd rfl (Or.inl rfl)) tgk_name (fun _ _ _ _ _ => spt_one (st_cmp (opr_eq hr) ok_eq (se_call (fn_pure G_needs_at) rfl takes0 (hr.mono (by decide)) D_needs_at.m D_needs_at.F.kp D_needs_at.b (sa_cons (se_var (pv 0)) (sa_cons (se_var (pv 2)) (sa_cons (se_var (pv 3)) (sa_cons (se_var (pv 5)) (sa_nil))))) (len_cons (len_cons (len_cons (len_cons len_nil))))) (se_int))) (fun _ _ _ _ _ => se_var (pv 5))))))
abbrev s_Board_copy : Stmt := inClass (top 50) 5
theorem sc_Board_copy : FnScope ["self", "other"] ["self"] (defScope s_Board_copy) := ⟨rfl, rfl, rfl, by decide +kernel, rfl, by decide +kernel, by decide +kernel⟩
theorem ok_Board_copy {f : Addr} {fd : FuncData} (F : Fun K "copy" "Board.copy" s_Board_copy f fd) (T : TX mg) {C : Addr} (Bc : Bdx K mg C) {a_Board___init__ : Addr} {fd_Board___init__ : FuncData} (D_Board___init__ : Dk K C "Board.__init__" s_Board___init__ ["self", "form"] a_Board___init__ fd_Board___init__) (G_Board___init__ : FnOk P w K mg base (L2.CX P w) 5 a_Board___init__ fd_Board___init__ ["self", "form"] (spOf ⟨P, w, K⟩ xm 2 f_Board___init__)) : FnOk P w K mg base (L2.CX P w) 7 f fd ["self"] (spOf ⟨P, w, K⟩ xm 1 f_Board_copy) :=
  fn_okK (N := ["self", "other"]) (b := b_Board_copy) xm F sc_Board_copy fun cdv A outer s H E W hr tk =>
    ss_cons (ss_set (i := 1) sc_Board_copy.nd rfl (Or.inl rfl) (se_make Bc.b D_Board___init__.md G_Board___init__ D_Board___init__.b tk (hr.mono (by decide)) Bc.g (sa_cons (se_fld Bc.b (se_var (pv 0))) (sa_nil)) (lenS_of (len_cons len_nil))))
    (ss_cons (ss_fld Bc.b (se_var (pv 1)) (se_callTy call_list_of (ok_list (m := true)) (sa_cons (se_fld Bc.b (se_var (pv 0))) (sa_nil)) rfl T.n_list bt_list))
    (ss_one (ss_ret (se_var (pv 1)))))
abbrev s__law_refused : Stmt := top 75
theorem sc__law_refused : FnScope ["_law_what", "_law_form"] ["_law_what", "_law_form"] (defScope s__law_refused) := ⟨rfl, rfl, rfl, by decide +kernel, rfl, by decide +kernel, by decide +kernel⟩
theorem ok__law_refused {f : Addr} {fd : FuncData} (F : Fun K "_law_refused" "_law_refused" s__law_refused f fd) (T : TX mg) {C : Addr} (Bc : Bdx K mg C) {C5 : Addr} (E5 : EC K mg xm "NothingToUndo" 5 C5) {C6 : Addr} (E6 : EC K mg xm "InvalidFormat" 6 C6) (h55 : PySem.W.exmOne K (xm 5) (.ref C5) = some true) (h65 : PySem.W.exmOne K (xm 6) (.ref C5) = some false) (h66 : PySem.W.exmOne K (xm 6) (.ref C6) = some true) {a_parse_form : Addr} {fd_parse_form : FuncData} (D_parse_form : Df K mg "parse_form" s_parse_form ["text"] a_parse_form fd_parse_form) (G_parse_form : FnOk P w K mg base (L2.CX P w) 4 a_parse_form fd_parse_form ["text"] (spOf ⟨P, w, K⟩ xm 1 f_parse_form)) {a_Board___init__ : Addr} {fd_Board___init__ : FuncData} (D_Board___init__ : Dk K C "Board.__init__" s_Board___init__ ["self", "form"] a_Board___init__ fd_Board___init__) (G_Board___init__ : FnOk P w K mg base (L2.CX P w) 5 a_Board___init__ fd_Board___init__ ["self", "form"] (spOf ⟨P, w, K⟩ xm 2 f_Board___init__)) {a_Board_undo : Addr} {fd_Board_undo : FuncData} (D_Board_undo : Dm K C "undo" "Board.undo" s_Board_undo ["self"] a_Board_undo fd_Board_undo) (G_Board_undo : FnOk P w K mg base (L2.CX P w) 5 a_Board_undo fd_Board_undo ["self"] (spOf ⟨P, w, K⟩ xm 1 f_Board_undo)) : FnOk P w K mg base (L2.CX P w) 7 f fd ["_law_what", "_law_form"] (spOf ⟨P, w, K⟩ xm 2 f__law_refused) :=
  fn_ok (N := ["_law_what", "_law_form"]) (m := false) (b := b__law_refused) xm F sc__law_refused fun cdv A outer s H E W hr tk =>
    ss_cons (ss_try2 rfl rfl ⟨rfl, by decide, .inl E5.g⟩ ⟨rfl, by decide, .inl E6.g⟩ tk h55 h65 h66 (fun W pn xe tk _ => sk_if (st_cmp (opr_eq hr) ok_eq (se_var (pv 0)) (se_int)) (sk_expr (se_meth0 Bc.b D_Board_undo G_Board_undo tk (hr.mono (by decide)) (se_make Bc.b D_Board___init__.md G_Board___init__ D_Board___init__.b tk (hr.mono (by decide)) Bc.g (sa_cons (se_var (pv 1)) (sa_nil)) (lenS_of (len_cons len_nil))))) (sk_expr (se_call (fn_pure G_parse_form) rfl tk (hr.mono (by decide)) D_parse_form.m D_parse_form.F.kp D_parse_form.b (sa_cons (se_str) (sa_nil)) (len_cons len_nil)))) (fun _ _ _ => ss_one (ss_ret (se_cmp op_eq ok_eqI (se_var (pv 0)) (se_int)))) (fun _ _ _ => ss_one (ss_ret (se_cmp op_eq ok_eqI (se_var (pv 0)) (se_int)))))
    (ss_one (ss_ret (se_bl)))
abbrev s__law_boards : Stmt := top 76
theorem sc__law_boards : FnScope ["_law_form", "_law_side", "_law_board", "_law_copy"] ["_law_form", "_law_side"] (defScope s__law_boards) := ⟨rfl, rfl, rfl, by decide +kernel, rfl, by decide +kernel, by decide +kernel⟩
theorem ok__law_boards {f : Addr} {fd : FuncData} (F : Fun K "_law_boards" "_law_boards" s__law_boards f fd) (T : TX mg) {C : Addr} (Bc : Bdx K mg C) {a_Board___init__ : Addr} {fd_Board___init__ : FuncData} (D_Board___init__ : Dk K C "Board.__init__" s_Board___init__ ["self", "form"] a_Board___init__ fd_Board___init__) (G_Board___init__ : FnOk P w K mg base (L2.CX P w) 5 a_Board___init__ fd_Board___init__ ["self", "form"] (spOf ⟨P, w, K⟩ xm 2 f_Board___init__)) {a_Board_point : Addr} {fd_Board_point : FuncData} (D_Board_point : Dm K C "point" "Board.point" s_Board_point ["self", "side"] a_Board_point fd_Board_point) (G_Board_point : FnOk P w K mg base (L2.CX P w) 5 a_Board_point fd_Board_point ["self", "side"] (spOf ⟨P, w, K⟩ xm 2 f_Board_point)) {a_Board_score : Addr} {fd_Board_score : FuncData} (D_Board_score : Dm K C "score" "Board.score" s_Board_score ["self"] a_Board_score fd_Board_score) (G_Board_score : FnOk P w K mg base (L2.CX P w) 4 a_Board_score fd_Board_score ["self"] (spOf ⟨P, w, K⟩ xm 1 f_Board_score)) {a_Board_winner : Addr} {fd_Board_winner : FuncData} (D_Board_winner : Dm K C "winner" "Board.winner" s_Board_winner ["self"] a_Board_winner fd_Board_winner) (G_Board_winner : FnOk P w K mg base (L2.CX P w) 4 a_Board_winner fd_Board_winner ["self"] (spOf ⟨P, w, K⟩ xm 1 f_Board_winner)) {a_Board_copy : Addr} {fd_Board_copy : FuncData} (D_Board_copy : Dm K C "copy" "Board.copy" s_Board_copy ["self"] a_Board_copy fd_Board_copy) (G_Board_copy : FnOk P w K mg base (L2.CX P w) 7 a_Board_copy fd_Board_copy ["self"] (spOf ⟨P, w, K⟩ xm 1 f_Board_copy)) {a_Board___len__ : Addr} {fd_Board___len__ : FuncData} (D_Board___len__ : Dm K C "__len__" "Board.__len__" s_Board___len__ ["self"] a_Board___len__ fd_Board___len__) (G_Board___len__ : FnOk P w K mg base (L2.CX P w) 1 a_Board___len__ fd_Board___len__ ["self"] (spOf ⟨P, w, K⟩ xm 1 f_Board___len__)) : FnOk P w K mg base (L2.CX P w) 8 f fd ["_law_form", "_law_side"] (spOf ⟨P, w, K⟩ xm 2 f__law_boards) :=
  fn_ok (N := ["_law_form", "_law_side", "_law_board", "_law_copy"]) (m := false) (b := b__law_boards) xm F sc__law_boards fun cdv A outer s H E W hr tk =>
    ss_cons (ss_set (i := 2) sc__law_boards.nd rfl (Or.inl rfl) (se_make Bc.b D_Board___init__.md G_Board___init__ D_Board___init__.b tk (hr.mono (by decide)) Bc.g (sa_cons (se_var (pv 0)) (sa_nil)) (lenS_of (len_cons len_nil))))
    (ss_cons (ss_set (i := 3) sc__law_boards.nd rfl (Or.inl rfl) (se_meth0 Bc.b D_Board_copy G_Board_copy tk (hr.mono (by decide)) (se_var (pv 2))))
    (ss_cons (ss_if (st_bool (sw_or (st_cmp (opr_ne hr) ok_ne (se_meth0 Bc.b D_Board_score G_Board_score tk (hr.mono (by decide)) (se_var (pv 2))) (se_tup (sa_cons (se_tup (sa_cons (se_int) (sa_cons (se_int) (sa_nil)))) (sa_nil)))) (sw_or (st_cmp opr_isN ok_isN (se_meth0 Bc.b D_Board_winner G_Board_winner tk (hr.mono (by decide)) (se_var (pv 2))) (se_non)) (sw_or1 (st_cmp opr_isN ok_isN (se_meth Bc.b D_Board_point G_Board_point tk (hr.mono (by decide)) (se_var (pv 3)) (sa_cons (se_var (pv 1)) (sa_nil)) (lenS_of (len_cons len_nil))) (se_non)))))) (ss_one (ss_ret (se_bl))) (ss_nil))
    (ss_cons (ss_if (st_cmp (opr_ne hr) ok_ne (se_lenO Bc.b D_Board___len__ G_Board___len__ tk (hr.mono (by decide)) (se_var (pv 2)) T.n_len bt_len) (se_int)) (ss_one (ss_ret (se_bl))) (ss_nil))
    (ss_one (ss_ret (se_and (se_cmp opr_is ok_is (se_meth Bc.b D_Board_point G_Board_point tk (hr.mono (by decide)) (se_var (pv 2)) (sa_cons (se_bin op_sub ok_sub (se_int) (se_var (pv 1))) (sa_nil)) (lenS_of (len_cons len_nil))) (se_non)) (se_and (se_cmp (opr_eq hr) ok_eq (se_lenO Bc.b D_Board___len__ G_Board___len__ tk (hr.mono (by decide)) (se_var (pv 2)) T.n_len bt_len) (se_int)) (se_one (se_cmp (opr_eq hr) ok_eq (se_lenO Bc.b D_Board___len__ G_Board___len__ tk (hr.mono (by decide)) (se_var (pv 3)) T.n_len bt_len) (se_int))))))))))
abbrev s_law : Stmt := top 78
theorem sc_law : FnScope ["_law_script", "_law_town", "_law_side", "_law_other", "_law_game", "_law_two", "_law_row", "_law_far", "_law_text"] ["_law_script"] (defScope s_law) := ⟨rfl, rfl, rfl, by decide +kernel, rfl, by decide +kernel, by decide +kernel⟩
theorem ok_law {f : Addr} {fd : FuncData} (F : Fun K "law" "law" s_law f fd) (T : TX mg) {a_is_form : Addr} {fd_is_form : FuncData} (D_is_form : Df K mg "is_form" s_is_form ["value"] a_is_form fd_is_form) (G_is_form : FnOk P w K mg base (L2.CX P w) 3 a_is_form fd_is_form ["value"] (spOf ⟨P, w, K⟩ xm 1 f_is_form)) {a_winner : Addr} {fd_winner : FuncData} (D_winner : Df K mg "winner" s_winner ["form", "row"] a_winner fd_winner) (G_winner : FnOk P w K mg base (L2.CX P w) 6 a_winner fd_winner ["form", "row"] (spOf ⟨P, w, K⟩ xm 2 f_winner)) {a_counted : Addr} {fd_counted : FuncData} (D_counted : Df K mg "counted" s_counted ["form", "row"] a_counted fd_counted) (G_counted : FnOk P w K mg base (L2.CX P w) 6 a_counted fd_counted ["form", "row"] (spOf ⟨P, w, K⟩ xm 2 f_counted)) {a_score : Addr} {fd_score : FuncData} (D_score : Df K mg "score" s_score ["form", "row"] a_score fd_score) (G_score : FnOk P w K mg base (L2.CX P w) 6 a_score fd_score ["form", "row"] (spOf ⟨P, w, K⟩ xm 2 f_score)) {a_needs : Addr} {fd_needs : FuncData} (D_needs : Df K mg "needs" s_needs ["form", "row", "side"] a_needs fd_needs) (G_needs : FnOk P w K mg base (L2.CX P w) 6 a_needs fd_needs ["form", "row", "side"] (spOf ⟨P, w, K⟩ xm 3 f_needs)) {a_least : Addr} {fd_least : FuncData} (D_least : Df K mg "least" s_least ["form", "row", "side"] a_least fd_least) (G_least : FnOk P w K mg base (L2.CX P w) 6 a_least fd_least ["form", "row", "side"] (spOf ⟨P, w, K⟩ xm 3 f_least)) {a_match_points : Addr} {fd_match_points : FuncData} (D_match_points : Df K mg "match_points" s_match_points ["form", "row"] a_match_points fd_match_points) (G_match_points : FnOk P w K mg base (L2.CX P w) 6 a_match_points fd_match_points ["form", "row"] (spOf ⟨P, w, K⟩ xm 2 f_match_points)) {a_shortest : Addr} {fd_shortest : FuncData} (D_shortest : Df K mg "shortest" s_shortest ["form"] a_shortest fd_shortest) (G_shortest : FnOk P w K mg base (L2.CX P w) 5 a_shortest fd_shortest ["form"] (spOf ⟨P, w, K⟩ xm 1 f_shortest)) {a_longest : Addr} {fd_longest : FuncData} (D_longest : Df K mg "longest" s_longest ["form"] a_longest fd_longest) (G_longest : FnOk P w K mg base (L2.CX P w) 5 a_longest fd_longest ["form"] (spOf ⟨P, w, K⟩ xm 1 f_longest)) {a_surplus : Addr} {fd_surplus : FuncData} (D_surplus : Df K mg "surplus" s_surplus ["form"] a_surplus fd_surplus) (G_surplus : FnOk P w K mg base (L2.CX P w) 5 a_surplus fd_surplus ["form"] (spOf ⟨P, w, K⟩ xm 1 f_surplus)) {a_surplus_row : Addr} {fd_surplus_row : FuncData} (D_surplus_row : Df K mg "surplus_row" s_surplus_row ["form"] a_surplus_row fd_surplus_row) (G_surplus_row : FnOk P w K mg base (L2.CX P w) 5 a_surplus_row fd_surplus_row ["form"] (spOf ⟨P, w, K⟩ xm 1 f_surplus_row)) {a_chance : Addr} {fd_chance : FuncData} (D_chance : Df K mg "chance" s_chance ["form", "point"] a_chance fd_chance) (G_chance : FnOk P w K mg base (L2.CX P w) 5 a_chance fd_chance ["form", "point"] (spOf ⟨P, w, K⟩ xm 2 f_chance)) {a_expectation : Addr} {fd_expectation : FuncData} (D_expectation : Df K mg "expectation" s_expectation ["form", "point"] a_expectation fd_expectation) (G_expectation : FnOk P w K mg base (L2.CX P w) 5 a_expectation fd_expectation ["form", "point"] (spOf ⟨P, w, K⟩ xm 2 f_expectation)) {a_format_form : Addr} {fd_format_form : FuncData} (D_format_form : Df K mg "format_form" s_format_form ["form"] a_format_form fd_format_form) (G_format_form : FnOk P w K mg base (L2.CX P w) 5 a_format_form fd_format_form ["form"] (spOf ⟨P, w, K⟩ xm 1 f_format_form)) {a_parse_form : Addr} {fd_parse_form : FuncData} (D_parse_form : Df K mg "parse_form" s_parse_form ["text"] a_parse_form fd_parse_form) (G_parse_form : FnOk P w K mg base (L2.CX P w) 4 a_parse_form fd_parse_form ["text"] (spOf ⟨P, w, K⟩ xm 1 f_parse_form)) {a_parting : Addr} {fd_parting : FuncData} (D_parting : Df K mg "parting" s_parting ["form", "other"] a_parting fd_parting) (G_parting : FnOk P w K mg base (L2.CX P w) 5 a_parting fd_parting ["form", "other"] (spOf ⟨P, w, K⟩ xm 2 f_parting)) {a__law_draw : Addr} {fd__law_draw : FuncData} (D__law_draw : Df K mg "_law_draw" s__law_draw ["_law_script", "_law_town", "_law_many"] a__law_draw fd__law_draw) (G__law_draw : FnOk P w K mg base (L2.CX P w) 1 a__law_draw fd__law_draw ["_law_script", "_law_town", "_law_many"] (spOf ⟨P, w, K⟩ xm 3 f__law_draw)) {a__law_refused : Addr} {fd__law_refused : FuncData} (D__law_refused : Df K mg "_law_refused" s__law_refused ["_law_what", "_law_form"] a__law_refused fd__law_refused) (G__law_refused : FnOk P w K mg base (L2.CX P w) 7 a__law_refused fd__law_refused ["_law_what", "_law_form"] (spOf ⟨P, w, K⟩ xm 2 f__law_refused)) {a__law_boards : Addr} {fd__law_boards : FuncData} (D__law_boards : Df K mg "_law_boards" s__law_boards ["_law_form", "_law_side"] a__law_boards fd__law_boards) (G__law_boards : FnOk P w K mg base (L2.CX P w) 8 a__law_boards fd__law_boards ["_law_form", "_law_side"] (spOf ⟨P, w, K⟩ xm 2 f__law_boards)) {a__law_turned : Addr} {fd__law_turned : FuncData} (D__law_turned : Df K mg "_law_turned" s__law_turned ["_law_pair", "_law_side"] a__law_turned fd__law_turned) (G__law_turned : FnOk P w K mg base (L2.CX P w) 1 a__law_turned fd__law_turned ["_law_pair", "_law_side"] (spOf ⟨P, w, K⟩ xm 2 f__law_turned)) : FnOk P w K mg base (L2.CX P w) 9 f fd ["_law_script"] (spOf ⟨P, w, K⟩ xm 1 f_law) :=
  fn_ok (N := ["_law_script", "_law_town", "_law_side", "_law_other", "_law_game", "_law_two", "_law_row", "_law_far", "_law_text"]) (m := false) (b := b_law) xm F sc_law fun cdv A outer s H E W hr tk =>
    ss_cons (ss_set (i := 1) sc_law.nd rfl (Or.inl rfl) (se_lst (m := true) (sa_cons (se_int) (sa_cons (se_int) (sa_nil)))))
    (ss_cons (ss_set (i := 2) sc_law.nd rfl (Or.inl rfl) (se_call G__law_draw rfl tk (hr.mono (by decide)) D__law_draw.m D__law_draw.F.kp D__law_draw.b (sa_cons (se_var (pv 0)) (sa_cons (se_var (pv 1)) (sa_cons (se_int) (sa_nil)))) (len_cons (len_cons (len_cons len_nil)))))
    (ss_cons (ss_par3s (i := 3) (j := 4) (l := 5) rfl sc_law.nd (sa_cons (se_bin op_sub ok_sub (se_int) (se_var (pv 2))) (sa_cons (se_tup (sa_cons (se_tup (sa_cons (se_int) (sa_cons (se_int) (sa_cons (se_non) (sa_nil))))) (sa_nil))) (sa_cons (se_tup (sa_cons (se_tup (sa_cons (se_int) (sa_cons (se_int) (sa_cons (se_non) (sa_nil))))) (sa_cons (se_tup (sa_cons (se_int) (sa_cons (se_int) (sa_cons (se_non) (sa_nil))))) (sa_nil)))) (sa_nil)))) (by decide) (by decide) (by decide))
    (ss_cons (ss_if (st_bool (sw_or (st_val (se_call (fn_pure G_is_form) rfl tk (hr.mono (by decide)) D_is_form.m D_is_form.F.kp D_is_form.b (sa_cons (se_tup (sa_cons (se_tup (sa_cons (se_int) (sa_cons (se_int) (sa_cons (se_int) (sa_nil))))) (sa_nil))) (sa_nil)) (len_cons len_nil))) (sw_or1 (st_cmp (opr_ne hr) ok_ne (se_call (fn_pure G_winner) rfl tk (hr.mono (by decide)) D_winner.m D_winner.F.kp D_winner.b (sa_cons (se_var (pv 4)) (sa_cons (se_bin opr_mul (ok_mul (m := false)) (se_lst (m := false) (sa_cons (se_var (pv 2)) (sa_nil))) (se_int)) (sa_nil))) (len_cons (len_cons len_nil))) (se_var (pv 2)))))) (ss_one (ss_ret (se_bl))) (ss_nil))
    (ss_cons (ss_if (st_cmp (opr_ne hr) ok_ne (se_call (fn_pure G_counted) rfl tk (hr.mono (by decide)) D_counted.m D_counted.F.kp D_counted.b (sa_cons (se_var (pv 4)) (sa_cons (se_bin opr_add (ok_add (m := false)) (se_bin opr_mul (ok_mul (m := false)) (se_lst (m := false) (sa_cons (se_var (pv 3)) (sa_nil))) (se_int)) (se_lst (m := false) (sa_cons (se_var (pv 2)) (sa_nil)))) (sa_nil))) (len_cons (len_cons len_nil))) (se_int)) (ss_one (ss_ret (se_bl))) (ss_nil))
    (ss_cons (ss_par2s (i := 6) (j := 7) rfl sc_law.nd (sa_cons (se_lst (m := false) (sa_cons (se_var (pv 2)) (sa_cons (se_var (pv 2)) (sa_cons (se_var (pv 3)) (sa_nil))))) (sa_cons (se_tup (sa_cons (se_tup (sa_cons (se_int) (sa_cons (se_int) (sa_cons (se_non) (sa_nil))))) (sa_cons (se_tup (sa_cons (se_int) (sa_cons (se_int) (sa_cons (se_non) (sa_nil))))) (sa_nil)))) (sa_nil))) (by decide))
    (ss_cons (ss_if (st_cmp (opr_ne hr) ok_ne (se_call (fn_pure G_score) rfl tk (hr.mono (by decide)) D_score.m D_score.F.kp D_score.b (sa_cons (se_var (pv 5)) (sa_cons (se_var (pv 6)) (sa_nil))) (len_cons (len_cons len_nil))) (se_tup (sa_cons (se_call (fn_pure G__law_turned) rfl tk (hr.mono (by decide)) D__law_turned.m D__law_turned.F.kp D__law_turned.b (sa_cons (se_tup (sa_cons (se_int) (sa_cons (se_int) (sa_nil)))) (sa_cons (se_var (pv 2)) (sa_nil))) (len_cons (len_cons len_nil))) (sa_cons (se_call (fn_pure G__law_turned) rfl tk (hr.mono (by decide)) D__law_turned.m D__law_turned.F.kp D__law_turned.b (sa_cons (se_tup (sa_cons (se_int) (sa_cons (se_int) (sa_nil)))) (sa_cons (se_var (pv 2)) (sa_nil))) (len_cons (len_cons len_nil))) (sa_nil))))) (ss_one (ss_ret (se_bl))) (ss_nil))
    (ss_cons (ss_if (st_cmp (opr_ne hr) ok_ne (se_call (fn_pure G_needs) rfl tk (hr.mono (by decide)) D_needs.m D_needs.F.kp D_needs.b (sa_cons (se_var (pv 5)) (sa_cons (se_var (pv 6)) (sa_cons (se_var (pv 3)) (sa_nil)))) (len_cons (len_cons (len_cons len_nil)))) (se_int)) (ss_one (ss_ret (se_bl))) (ss_nil))
    (ss_cons (ss_if (st_bool (sw_or (st_cmp (opr_ne hr) ok_ne (se_call (fn_pure G_needs) rfl tk (hr.mono (by decide)) D_needs.m D_needs.F.kp D_needs.b (sa_cons (se_var (pv 7)) (sa_cons (se_lst (m := false) (sa_cons (se_var (pv 3)) (sa_cons (se_var (pv 3)) (sa_nil)))) (sa_cons (se_var (pv 2)) (sa_nil)))) (len_cons (len_cons (len_cons len_nil)))) (se_int)) (sw_or1 (st_cmp (opr_ne hr) ok_ne (se_call (fn_pure G_least) rfl tk (hr.mono (by decide)) D_least.m D_least.F.kp D_least.b (sa_cons (se_var (pv 7)) (sa_cons (se_lst (m := false) (sa_cons (se_var (pv 3)) (sa_cons (se_var (pv 3)) (sa_nil)))) (sa_cons (se_var (pv 2)) (sa_nil)))) (len_cons (len_cons (len_cons len_nil)))) (se_int))))) (ss_one (ss_ret (se_bl))) (ss_nil))
    (ss_cons (ss_if (st_cmp (opr_ne hr) ok_ne (se_call (fn_pure G_match_points) rfl tk (hr.mono (by decide)) D_match_points.m D_match_points.F.kp D_match_points.b (sa_cons (se_tup (sa_cons (se_tup (sa_cons (se_int) (sa_cons (se_int) (sa_cons (se_non) (sa_nil))))) (sa_nil))) (sa_cons (se_lst (m := false) (sa_cons (se_var (pv 2)) (sa_cons (se_var (pv 3)) (sa_nil)))) (sa_nil))) (len_cons (len_cons len_nil))) (se_lst (m := false) (sa_cons (se_int) (sa_cons (se_int) (sa_nil))))) (ss_one (ss_ret (se_bl))) (ss_nil))
    (ss_cons (ss_if (st_bool (sw_or (st_cmp (opr_ne hr) ok_ne (se_call (fn_pure G_shortest) rfl tk (hr.mono (by decide)) D_shortest.m D_shortest.F.kp D_shortest.b (sa_cons (se_var (pv 5)) (sa_nil)) (len_cons len_nil)) (se_int)) (sw_or (st_cmp (opr_ne hr) ok_ne (se_call (fn_pure G_longest) rfl tk (hr.mono (by decide)) D_longest.m D_longest.F.kp D_longest.b (sa_cons (se_var (pv 5)) (sa_nil)) (len_cons len_nil)) (se_int)) (sw_or (st_cmp opr_isN ok_isN (se_call (fn_pure G_longest) rfl tk (hr.mono (by decide)) D_longest.m D_longest.F.kp D_longest.b (sa_cons (se_var (pv 4)) (sa_nil)) (len_cons len_nil)) (se_non)) (sw_or1 (st_cmp (opr_ne hr) ok_ne (se_call (fn_pure G_surplus) rfl tk (hr.mono (by decide)) D_surplus.m D_surplus.F.kp D_surplus.b (sa_cons (se_var (pv 5)) (sa_nil)) (len_cons len_nil)) (se_int))))))) (ss_one (ss_ret (se_bl))) (ss_nil))
    (ss_cons (ss_if (st_cmp (opr_ne hr) ok_ne (se_call (fn_pure G_surplus) rfl tk (hr.mono (by decide)) D_surplus.m D_surplus.F.kp D_surplus.b (sa_cons (se_var (pv 4)) (sa_nil)) (len_cons len_nil)) (se_un un_neg ok_neg (se_int))) (ss_one (ss_ret (se_bl))) (ss_nil))
    (ss_cons (ss_if (st_bool (sw_or (st_cmp (opr_ne hr) ok_ne (se_callB call_len ok_len (sa_cons (se_call (fn_pure G_surplus_row) rfl tk (hr.mono (by decide)) D_surplus_row.m D_surplus_row.F.kp D_surplus_row.b (sa_cons (se_var (pv 5)) (sa_nil)) (len_cons len_nil)) (sa_nil)) rfl T.n_len bt_len) (se_int)) (sw_or1 (st_cmp (opr_ne hr) ok_ne (se_call (fn_pure G_winner) rfl tk (hr.mono (by decide)) D_winner.m D_winner.F.kp D_winner.b (sa_cons (se_var (pv 5)) (sa_cons (se_call (fn_pure G_surplus_row) rfl tk (hr.mono (by decide)) D_surplus_row.m D_surplus_row.F.kp D_surplus_row.b (sa_cons (se_var (pv 5)) (sa_nil)) (len_cons len_nil)) (sa_nil))) (len_cons (len_cons len_nil))) (se_int))))) (ss_one (ss_ret (se_bl))) (ss_nil))
    (ss_cons (ss_if (st_bool (sw_or (st_cmp (opr_ne hr) ok_ne (se_call (fn_pure G_chance) rfl tk (hr.mono (by decide)) D_chance.m D_chance.F.kp D_chance.b (sa_cons (se_var (pv 5)) (sa_cons (se_tup (sa_cons (se_int) (sa_cons (se_int) (sa_nil)))) (sa_nil))) (len_cons (len_cons len_nil))) (se_tup (sa_cons (se_int) (sa_cons (se_int) (sa_nil))))) (sw_or1 (st_cmp (opr_ne hr) ok_ne (se_call (fn_pure G_chance) rfl tk (hr.mono (by decide)) D_chance.m D_chance.F.kp D_chance.b (sa_cons (se_tup (sa_cons (se_tup (sa_cons (se_int) (sa_cons (se_int) (sa_cons (se_non) (sa_nil))))) (sa_nil))) (sa_cons (se_tup (sa_cons (se_int) (sa_cons (se_int) (sa_nil)))) (sa_nil))) (len_cons (len_cons len_nil))) (se_tup (sa_cons (se_int) (sa_cons (se_int) (sa_nil)))))))) (ss_one (ss_ret (se_bl))) (ss_nil))
    (ss_cons (ss_if (st_cmp (opr_ne hr) ok_ne (se_call (fn_pure G_expectation) rfl tk (hr.mono (by decide)) D_expectation.m D_expectation.F.kp D_expectation.b (sa_cons (se_tup (sa_cons (se_tup (sa_cons (se_int) (sa_cons (se_int) (sa_cons (se_non) (sa_nil))))) (sa_nil))) (sa_cons (se_tup (sa_cons (se_int) (sa_cons (se_int) (sa_nil)))) (sa_nil))) (len_cons (len_cons len_nil))) (se_tup (sa_cons (se_int) (sa_cons (se_int) (sa_nil))))) (ss_one (ss_ret (se_bl))) (ss_nil))
    (ss_cons (ss_if (st_cmp opr_isN ok_isN (se_call (fn_pure G_parting) rfl tk (hr.mono (by decide)) D_parting.m D_parting.F.kp D_parting.b (sa_cons (se_tup (sa_cons (se_tup (sa_cons (se_int) (sa_cons (se_int) (sa_cons (se_non) (sa_nil))))) (sa_nil))) (sa_cons (se_tup (sa_cons (se_tup (sa_cons (se_int) (sa_cons (se_int) (sa_cons (se_int) (sa_nil))))) (sa_nil))) (sa_nil))) (len_cons (len_cons len_nil))) (se_non)) (ss_one (ss_ret (se_bl))) (ss_nil))
    (ss_cons (ss_set (i := 8) sc_law.nd rfl (Or.inl rfl) (se_str))
    (ss_cons (ss_if (st_bool (sw_or (st_cmp (opr_ne hr) ok_ne (se_call (fn_pure G_format_form) rfl tk (hr.mono (by decide)) D_format_form.m D_format_form.F.kp D_format_form.b (sa_cons (se_tup (sa_cons (se_tup (sa_cons (se_int) (sa_cons (se_int) (sa_cons (se_non) (sa_nil))))) (sa_cons (se_tup (sa_cons (se_int) (sa_cons (se_int) (sa_cons (se_int) (sa_nil))))) (sa_nil)))) (sa_nil)) (len_cons len_nil)) (se_var (pv 8))) (sw_or1 (st_cmp (opr_ne hr) ok_ne (se_call (fn_pure G_parse_form) rfl tk (hr.mono (by decide)) D_parse_form.m D_parse_form.F.kp D_parse_form.b (sa_cons (se_var (pv 8)) (sa_nil)) (len_cons len_nil)) (se_tup (sa_cons (se_tup (sa_cons (se_int) (sa_cons (se_int) (sa_cons (se_non) (sa_nil))))) (sa_cons (se_tup (sa_cons (se_int) (sa_cons (se_int) (sa_cons (se_int) (sa_nil))))) (sa_nil)))))))) (ss_one (ss_ret (se_bl))) (ss_nil))
    (ss_one (ss_ret (se_and (se_call (fn_pure G__law_boards) rfl tk (hr.mono (by decide)) D__law_boards.m D__law_boards.F.kp D__law_boards.b (sa_cons (se_var (pv 4)) (sa_cons (se_var (pv 2)) (sa_nil))) (len_cons (len_cons len_nil))) (se_and (se_call (fn_pure G__law_refused) rfl tk (hr.mono (by decide)) D__law_refused.m D__law_refused.F.kp D__law_refused.b (sa_cons (se_int) (sa_cons (se_var (pv 4)) (sa_nil))) (len_cons (len_cons len_nil))) (se_one (se_call (fn_pure G__law_refused) rfl tk (hr.mono (by decide)) D__law_refused.m D__law_refused.F.kp D__law_refused.b (sa_cons (se_int) (sa_cons (se_var (pv 4)) (sa_nil))) (len_cons (len_cons len_nil)))))))))))))))))))))))))
theorem all_mk {l : PySem.W.OpenLaw} {h : Heap} {fa : Addr} (X : K.In h) (G : h.Ns mainGlobals mg) (hfa : mg "law" = some (.ref fa)) {f1 : Addr} {od1 an1 : Option Addr} {sl1 : Array (Option Value)} {oc1 kV1 dc1 pm1 cd1 ct1 : Value} {f2 : Addr} {od2 an2 : Option Addr} {sl2 : Array (Option Value)} {oc2 kV2 dc2 pm2 cd2 ct2 : Value} {f3 : Addr} {od3 an3 : Option Addr} {sl3 : Array (Option Value)} {oc3 kV3 dc3 pm3 cd3 ct3 : Value} {f4 : Addr} {od4 an4 : Option Addr} {sl4 : Array (Option Value)} {oc4 kV4 dc4 pm4 cd4 ct4 : Value} {f5 : Addr} {od5 an5 : Option Addr} {sl5 : Array (Option Value)} {oc5 kV5 dc5 pm5 cd5 ct5 : Value} {f6 : Addr} {od6 an6 : Option Addr} {sl6 : Array (Option Value)} {oc6 kV6 dc6 pm6 cd6 ct6 : Value} {f7 : Addr} {od7 an7 : Option Addr} {sl7 : Array (Option Value)} {oc7 kV7 dc7 pm7 cd7 ct7 : Value} {f8 : Addr} {od8 an8 : Option Addr} {sl8 : Array (Option Value)} {oc8 kV8 dc8 pm8 cd8 ct8 : Value} {f9 : Addr} {od9 an9 : Option Addr} {sl9 : Array (Option Value)} {oc9 kV9 dc9 pm9 cd9 ct9 : Value} {f10 : Addr} {od10 an10 : Option Addr} {sl10 : Array (Option Value)} {oc10 kV10 dc10 pm10 cd10 ct10 : Value} {f11 : Addr} {od11 an11 : Option Addr} {sl11 : Array (Option Value)} {oc11 kV11 dc11 pm11 cd11 ct11 : Value} {f12 : Addr} {od12 an12 : Option Addr} {sl12 : Array (Option Value)} {oc12 kV12 dc12 pm12 cd12 ct12 : Value} {f13 : Addr} {od13 an13 : Option Addr} {sl13 : Array (Option Value)} {oc13 kV13 dc13 pm13 cd13 ct13 : Value} {f14 : Addr} {od14 an14 : Option Addr} {sl14 : Array (Option Value)} {oc14 kV14 dc14 pm14 cd14 ct14 : Value} {f15 : Addr} {od15 an15 : Option Addr} {sl15 : Array (Option Value)} {oc15 kV15 dc15 pm15 cd15 ct15 : Value} {f16 : Addr} {od16 an16 : Option Addr} {sl16 : Array (Option Value)} {oc16 kV16 dc16 pm16 cd16 ct16 : Value} {f17 : Addr} {od17 an17 : Option Addr} {sl17 : Array (Option Value)} {oc17 kV17 dc17 pm17 cd17 ct17 : Value} {f18 : Addr} {od18 an18 : Option Addr} {sl18 : Array (Option Value)} {oc18 kV18 dc18 pm18 cd18 ct18 : Value} {f19 : Addr} {od19 an19 : Option Addr} {sl19 : Array (Option Value)} {oc19 kV19 dc19 pm19 cd19 ct19 : Value} {f20 : Addr} {od20 an20 : Option Addr} {sl20 : Array (Option Value)} {oc20 kV20 dc20 pm20 cd20 ct20 : Value} {f21 : Addr} {od21 an21 : Option Addr} {sl21 : Array (Option Value)} {oc21 kV21 dc21 pm21 cd21 ct21 : Value} {f22 : Addr} {od22 an22 : Option Addr} {sl22 : Array (Option Value)} {oc22 kV22 dc22 pm22 cd22 ct22 : Value} {f23 : Addr} {od23 an23 : Option Addr} {sl23 : Array (Option Value)} {oc23 kV23 dc23 pm23 cd23 ct23 : Value} {f24 : Addr} {od24 an24 : Option Addr} {sl24 : Array (Option Value)} {oc24 kV24 dc24 pm24 cd24 ct24 : Value} {f25 : Addr} {od25 an25 : Option Addr} {sl25 : Array (Option Value)} {oc25 kV25 dc25 pm25 cd25 ct25 : Value} {f26 : Addr} {od26 an26 : Option Addr} {sl26 : Array (Option Value)} {oc26 kV26 dc26 pm26 cd26 ct26 : Value} {f27 : Addr} {od27 an27 : Option Addr} {sl27 : Array (Option Value)} {oc27 kV27 dc27 pm27 cd27 ct27 : Value} {f28 : Addr} {od28 an28 : Option Addr} {sl28 : Array (Option Value)} {oc28 kV28 dc28 pm28 cd28 ct28 : Value} {f29 : Addr} {od29 an29 : Option Addr} {sl29 : Array (Option Value)} {oc29 kV29 dc29 pm29 cd29 ct29 : Value} {f30 : Addr} {od30 an30 : Option Addr} {sl30 : Array (Option Value)} {oc30 kV30 dc30 pm30 cd30 ct30 : Value} {f31 : Addr} {od31 an31 : Option Addr} {sl31 : Array (Option Value)} {oc31 kV31 dc31 pm31 cd31 ct31 : Value} {f32 : Addr} {od32 an32 : Option Addr} {sl32 : Array (Option Value)} {oc32 kV32 dc32 pm32 cd32 ct32 : Value} {f33 : Addr} {od33 an33 : Option Addr} {sl33 : Array (Option Value)} {oc33 kV33 dc33 pm33 cd33 ct33 : Value} {f34 : Addr} {od34 an34 : Option Addr} {sl34 : Array (Option Value)} {oc34 kV34 dc34 pm34 cd34 ct34 : Value} {f35 : Addr} {od35 an35 : Option Addr} {sl35 : Array (Option Value)} {oc35 kV35 dc35 pm35 cd35 ct35 : Value} {f36 : Addr} {od36 an36 : Option Addr} {sl36 : Array (Option Value)} {oc36 kV36 dc36 pm36 cd36 ct36 : Value} {f37 : Addr} {od37 an37 : Option Addr} {sl37 : Array (Option Value)} {oc37 kV37 dc37 pm37 cd37 ct37 : Value} {f38 : Addr} {od38 an38 : Option Addr} {sl38 : Array (Option Value)} {oc38 kV38 dc38 pm38 cd38 ct38 : Value} {f39 : Addr} {od39 an39 : Option Addr} {sl39 : Array (Option Value)} {oc39 kV39 dc39 pm39 cd39 ct39 : Value} {f40 : Addr} {od40 an40 : Option Addr} {sl40 : Array (Option Value)} {oc40 kV40 dc40 pm40 cd40 ct40 : Value} {f41 : Addr} {od41 an41 : Option Addr} {sl41 : Array (Option Value)} {oc41 kV41 dc41 pm41 cd41 ct41 : Value} {f42 : Addr} {od42 an42 : Option Addr} {sl42 : Array (Option Value)} {oc42 kV42 dc42 pm42 cd42 ct42 : Value} {f43 : Addr} {od43 an43 : Option Addr} {sl43 : Array (Option Value)} {oc43 kV43 dc43 pm43 cd43 ct43 : Value} {f44 : Addr} {od44 an44 : Option Addr} {sl44 : Array (Option Value)} {oc44 kV44 dc44 pm44 cd44 ct44 : Value} {f45 : Addr} {od45 an45 : Option Addr} {sl45 : Array (Option Value)} {oc45 kV45 dc45 pm45 cd45 ct45 : Value} {f46 : Addr} {od46 an46 : Option Addr} {sl46 : Array (Option Value)} {oc46 kV46 dc46 pm46 cd46 ct46 : Value} {f47 : Addr} {od47 an47 : Option Addr} {sl47 : Array (Option Value)} {oc47 kV47 dc47 pm47 cd47 ct47 : Value} {f48 : Addr} {od48 an48 : Option Addr} {sl48 : Array (Option Value)} {oc48 kV48 dc48 pm48 cd48 ct48 : Value} {f49 : Addr} {od49 an49 : Option Addr} {sl49 : Array (Option Value)} {oc49 kV49 dc49 pm49 cd49 ct49 : Value} {f50 : Addr} {od50 an50 : Option Addr} {sl50 : Array (Option Value)} {oc50 kV50 dc50 pm50 cd50 ct50 : Value} {f51 : Addr} {od51 an51 : Option Addr} {sl51 : Array (Option Value)} {oc51 kV51 dc51 pm51 cd51 ct51 : Value} {f52 : Addr} {od52 an52 : Option Addr} {sl52 : Array (Option Value)} {oc52 kV52 dc52 pm52 cd52 ct52 : Value} {f53 : Addr} {od53 an53 : Option Addr} {sl53 : Array (Option Value)} {oc53 kV53 dc53 pm53 cd53 ct53 : Value} {f54 : Addr} {od54 an54 : Option Addr} {sl54 : Array (Option Value)} {oc54 kV54 dc54 pm54 cd54 ct54 : Value} {f55 : Addr} {od55 an55 : Option Addr} {sl55 : Array (Option Value)} {oc55 kV55 dc55 pm55 cd55 ct55 : Value} {f56 : Addr} {od56 an56 : Option Addr} {sl56 : Array (Option Value)} {oc56 kV56 dc56 pm56 cd56 ct56 : Value} {f57 : Addr} {od57 an57 : Option Addr} {sl57 : Array (Option Value)} {oc57 kV57 dc57 pm57 cd57 ct57 : Value} {f58 : Addr} {od58 an58 : Option Addr} {sl58 : Array (Option Value)} {oc58 kV58 dc58 pm58 cd58 ct58 : Value} {f59 : Addr} {od59 an59 : Option Addr} {sl59 : Array (Option Value)} {oc59 kV59 dc59 pm59 cd59 ct59 : Value} {f60 : Addr} {od60 an60 : Option Addr} {sl60 : Array (Option Value)} {oc60 kV60 dc60 pm60 cd60 ct60 : Value} {f61 : Addr} {od61 an61 : Option Addr} {sl61 : Array (Option Value)} {oc61 kV61 dc61 pm61 cd61 ct61 : Value} {C : Addr} {X5 : Addr} {X6 : Addr} (aC : PySem.W.nsIn K mainGlobals "Board" = some (some (.ref C))) (pgC : PySem.W.plainGet K C Str.empty = true) (hdC : PySem.W.hasDictIn K C = true) (poC : PySem.W.plainOver K C = true) (saC : PySem.W.findIn K (.ref C) "__setattr__" = some (some (.builtin "object.__setattr__"))) (mkC : PySem.W.makesIn K C = true) (kcC : PySem.W.keepIn K (.ref C) = true) (nFC : PySem.W.findIn K (.ref C) "form" = some none) (nPC : PySem.W.findIn K (.ref C) "points" = some none) (a1 : PySem.W.nsIn K mainGlobals "is_count" = some (some (.ref f1))) (l1 : K.lookup f1 = some ⟨oc1, od1, .func (PySem.W.fnOf "is_count" "is_count" (defArgs s_is_count) (defBody s_is_count) (defScope s_is_count) .none kV1 dc1 pm1 an1 cd1 ct1), sl1⟩) (c1 : PySem.W.codeIn K cd1 "is_count" = true) (k1 : PySem.W.keepIn K (.ref f1) = true) (a2 : PySem.W.nsIn K mainGlobals "round_winner" = some (some (.ref f2))) (l2 : K.lookup f2 = some ⟨oc2, od2, .func (PySem.W.fnOf "round_winner" "round_winner" (defArgs s_round_winner) (defBody s_round_winner) (defScope s_round_winner) .none kV2 dc2 pm2 an2 cd2 ct2), sl2⟩) (c2 : PySem.W.codeIn K cd2 "round_winner" = true) (k2 : PySem.W.keepIn K (.ref f2) = true) (a3 : PySem.W.nsIn K mainGlobals "start_of" = some (some (.ref f3))) (l3 : K.lookup f3 = some ⟨oc3, od3, .func (PySem.W.fnOf "start_of" "start_of" (defArgs s_start_of) (defBody s_start_of) (defScope s_start_of) .none kV3 dc3 pm3 an3 cd3 ct3), sl3⟩) (c3 : PySem.W.codeIn K cd3 "start_of" = true) (k3 : PySem.W.keepIn K (.ref f3) = true) (a4 : PySem.W.nsIn K mainGlobals "plus" = some (some (.ref f4))) (l4 : K.lookup f4 = some ⟨oc4, od4, .func (PySem.W.fnOf "plus" "plus" (defArgs s_plus) (defBody s_plus) (defScope s_plus) .none kV4 dc4 pm4 an4 cd4 ct4), sl4⟩) (c4 : PySem.W.codeIn K cd4 "plus" = true) (k4 : PySem.W.keepIn K (.ref f4) = true) (a5 : PySem.W.nsIn K mainGlobals "settled" = some (some (.ref f5))) (l5 : K.lookup f5 = some ⟨oc5, od5, .func (PySem.W.fnOf "settled" "settled" (defArgs s_settled) (defBody s_settled) (defScope s_settled) .none kV5 dc5 pm5 an5 cd5 ct5), sl5⟩) (c5 : PySem.W.codeIn K cd5 "settled" = true) (k5 : PySem.W.keepIn K (.ref f5) = true) (a6 : PySem.W.nsIn K mainGlobals "least_units" = some (some (.ref f6))) (l6 : K.lookup f6 = some ⟨oc6, od6, .func (PySem.W.fnOf "least_units" "least_units" (defArgs s_least_units) (defBody s_least_units) (defScope s_least_units) .none kV6 dc6 pm6 an6 cd6 ct6), sl6⟩) (c6 : PySem.W.codeIn K cd6 "least_units" = true) (k6 : PySem.W.keepIn K (.ref f6) = true) (a7 : PySem.W.findIn K (.ref C) "__len__" = some (some (.ref f7))) (i7 : PySem.W.isFn K (.ref f7) = true) (l7 : K.lookup f7 = some ⟨oc7, od7, .func (PySem.W.fnOf "__len__" "Board.__len__" (defArgs s_Board___len__) (defBody s_Board___len__) (defScope s_Board___len__) .none kV7 dc7 pm7 an7 cd7 ct7), sl7⟩) (c7 : PySem.W.codeIn K cd7 "Board.__len__" = true) (k7 : PySem.W.keepIn K (.ref f7) = true) (a8 : PySem.W.nsIn K mainGlobals "lowest" = some (some (.ref f8))) (l8 : K.lookup f8 = some ⟨oc8, od8, .func (PySem.W.fnOf "lowest" "lowest" (defArgs s_lowest) (defBody s_lowest) (defScope s_lowest) .none kV8 dc8 pm8 an8 cd8 ct8), sl8⟩) (c8 : PySem.W.codeIn K cd8 "lowest" = true) (k8 : PySem.W.keepIn K (.ref f8) = true) (a9 : PySem.W.nsIn K mainGlobals "power" = some (some (.ref f9))) (l9 : K.lookup f9 = some ⟨oc9, od9, .func (PySem.W.fnOf "power" "power" (defArgs s_power) (defBody s_power) (defScope s_power) .none kV9 dc9 pm9 an9 cd9 ct9), sl9⟩) (c9 : PySem.W.codeIn K cd9 "power" = true) (k9 : PySem.W.keepIn K (.ref f9) = true) (a10 : PySem.W.nsIn K mainGlobals "formatted" = some (some (.ref f10))) (l10 : K.lookup f10 = some ⟨oc10, od10, .func (PySem.W.fnOf "formatted" "formatted" (defArgs s_formatted) (defBody s_formatted) (defScope s_formatted) .none kV10 dc10 pm10 an10 cd10 ct10), sl10⟩) (c10 : PySem.W.codeIn K cd10 "formatted" = true) (k10 : PySem.W.keepIn K (.ref f10) = true) (a11 : PySem.W.nsIn K mainGlobals "number_of" = some (some (.ref f11))) (l11 : K.lookup f11 = some ⟨oc11, od11, .func (PySem.W.fnOf "number_of" "number_of" (defArgs s_number_of) (defBody s_number_of) (defScope s_number_of) .none kV11 dc11 pm11 an11 cd11 ct11), sl11⟩) (c11 : PySem.W.codeIn K cd11 "number_of" = true) (k11 : PySem.W.keepIn K (.ref f11) = true) (a12 : PySem.W.nsIn K mainGlobals "row_to" = some (some (.ref f12))) (l12 : K.lookup f12 = some ⟨oc12, od12, .func (PySem.W.fnOf "row_to" "row_to" (defArgs s_row_to) (defBody s_row_to) (defScope s_row_to) .none kV12 dc12 pm12 an12 cd12 ct12), sl12⟩) (c12 : PySem.W.codeIn K cd12 "row_to" = true) (k12 : PySem.W.keepIn K (.ref f12) = true) (a13 : PySem.W.nsIn K mainGlobals "_law_draw" = some (some (.ref f13))) (l13 : K.lookup f13 = some ⟨oc13, od13, .func (PySem.W.fnOf "_law_draw" "_law_draw" (defArgs s__law_draw) (defBody s__law_draw) (defScope s__law_draw) .none kV13 dc13 pm13 an13 cd13 ct13), sl13⟩) (c13 : PySem.W.codeIn K cd13 "_law_draw" = true) (k13 : PySem.W.keepIn K (.ref f13) = true) (a14 : PySem.W.nsIn K mainGlobals "_law_turned" = some (some (.ref f14))) (l14 : K.lookup f14 = some ⟨oc14, od14, .func (PySem.W.fnOf "_law_turned" "_law_turned" (defArgs s__law_turned) (defBody s__law_turned) (defScope s__law_turned) .none kV14 dc14 pm14 an14 cd14 ct14), sl14⟩) (c14 : PySem.W.codeIn K cd14 "_law_turned" = true) (k14 : PySem.W.keepIn K (.ref f14) = true) (a15 : PySem.W.nsIn K mainGlobals "is_level" = some (some (.ref f15))) (l15 : K.lookup f15 = some ⟨oc15, od15, .func (PySem.W.fnOf "is_level" "is_level" (defArgs s_is_level) (defBody s_is_level) (defScope s_is_level) .none kV15 dc15 pm15 an15 cd15 ct15), sl15⟩) (c15 : PySem.W.codeIn K cd15 "is_level" = true) (k15 : PySem.W.keepIn K (.ref f15) = true) (a16 : PySem.W.nsIn K mainGlobals "is_side" = some (some (.ref f16))) (l16 : K.lookup f16 = some ⟨oc16, od16, .func (PySem.W.fnOf "is_side" "is_side" (defArgs s_is_side) (defBody s_is_side) (defScope s_is_side) .none kV16 dc16 pm16 an16 cd16 ct16), sl16⟩) (c16 : PySem.W.codeIn K cd16 "is_side" = true) (k16 : PySem.W.keepIn K (.ref f16) = true) (a17 : PySem.W.nsIn K mainGlobals "after" = some (some (.ref f17))) (l17 : K.lookup f17 = some ⟨oc17, od17, .func (PySem.W.fnOf "after" "after" (defArgs s_after) (defBody s_after) (defScope s_after) .none kV17 dc17 pm17 an17 cd17 ct17), sl17⟩) (c17 : PySem.W.codeIn K cd17 "after" = true) (k17 : PySem.W.keepIn K (.ref f17) = true) (a18 : PySem.W.nsIn K mainGlobals "rounds" = some (some (.ref f18))) (l18 : K.lookup f18 = some ⟨oc18, od18, .func (PySem.W.fnOf "rounds" "rounds" (defArgs s_rounds) (defBody s_rounds) (defScope s_rounds) .none kV18 dc18 pm18 an18 cd18 ct18), sl18⟩) (c18 : PySem.W.codeIn K cd18 "rounds" = true) (k18 : PySem.W.keepIn K (.ref f18) = true) (a19 : PySem.W.nsIn K mainGlobals "times" = some (some (.ref f19))) (l19 : K.lookup f19 = some ⟨oc19, od19, .func (PySem.W.fnOf "times" "times" (defArgs s_times) (defBody s_times) (defScope s_times) .none kV19 dc19 pm19 an19 cd19 ct19), sl19⟩) (c19 : PySem.W.codeIn K cd19 "times" = true) (k19 : PySem.W.keepIn K (.ref f19) = true) (a20 : PySem.W.nsIn K mainGlobals "added" = some (some (.ref f20))) (l20 : K.lookup f20 = some ⟨oc20, od20, .func (PySem.W.fnOf "added" "added" (defArgs s_added) (defBody s_added) (defScope s_added) .none kV20 dc20 pm20 an20 cd20 ct20), sl20⟩) (c20 : PySem.W.codeIn K cd20 "added" = true) (k20 : PySem.W.keepIn K (.ref f20) = true) (a21 : PySem.W.nsIn K mainGlobals "ends_of" = some (some (.ref f21))) (l21 : K.lookup f21 = some ⟨oc21, od21, .func (PySem.W.fnOf "ends_of" "ends_of" (defArgs s_ends_of) (defBody s_ends_of) (defScope s_ends_of) .none kV21 dc21 pm21 an21 cd21 ct21), sl21⟩) (c21 : PySem.W.codeIn K cd21 "ends_of" = true) (k21 : PySem.W.keepIn K (.ref f21) = true) (a22 : PySem.W.nsIn K mainGlobals "need_chance" = some (some (.ref f22))) (l22 : K.lookup f22 = some ⟨oc22, od22, .func (PySem.W.fnOf "need_chance" "need_chance" (defArgs s_need_chance) (defBody s_need_chance) (defScope s_need_chance) .none kV22 dc22 pm22 an22 cd22 ct22), sl22⟩) (c22 : PySem.W.codeIn K cd22 "need_chance" = true) (k22 : PySem.W.keepIn K (.ref f22) = true) (a23 : PySem.W.nsIn K mainGlobals "parsed_level" = some (some (.ref f23))) (l23 : K.lookup f23 = some ⟨oc23, od23, .func (PySem.W.fnOf "parsed_level" "parsed_level" (defArgs s_parsed_level) (defBody s_parsed_level) (defScope s_parsed_level) .none kV23 dc23 pm23 an23 cd23 ct23), sl23⟩) (c23 : PySem.W.codeIn K cd23 "parsed_level" = true) (k23 : PySem.W.keepIn K (.ref f23) = true) (a24 : PySem.W.nsIn K mainGlobals "is_form" = some (some (.ref f24))) (l24 : K.lookup f24 = some ⟨oc24, od24, .func (PySem.W.fnOf "is_form" "is_form" (defArgs s_is_form) (defBody s_is_form) (defScope s_is_form) .none kV24 dc24 pm24 an24 cd24 ct24), sl24⟩) (c24 : PySem.W.codeIn K cd24 "is_form" = true) (k24 : PySem.W.keepIn K (.ref f24) = true) (a25 : PySem.W.nsIn K mainGlobals "need_side" = some (some (.ref f25))) (l25 : K.lookup f25 = some ⟨oc25, od25, .func (PySem.W.fnOf "need_side" "need_side" (defArgs s_need_side) (defBody s_need_side) (defScope s_need_side) .none kV25 dc25 pm25 an25 cd25 ct25), sl25⟩) (c25 : PySem.W.codeIn K cd25 "need_side" = true) (k25 : PySem.W.keepIn K (.ref f25) = true) (a26 : PySem.W.nsIn K mainGlobals "need_row" = some (some (.ref f26))) (l26 : K.lookup f26 = some ⟨oc26, od26, .func (PySem.W.fnOf "need_row" "need_row" (defArgs s_need_row) (defBody s_need_row) (defScope s_need_row) .none kV26 dc26 pm26 an26 cd26 ct26), sl26⟩) (c26 : PySem.W.codeIn K cd26 "need_row" = true) (k26 : PySem.W.keepIn K (.ref f26) = true) (a27 : PySem.W.nsIn K mainGlobals "played" = some (some (.ref f27))) (l27 : K.lookup f27 = some ⟨oc27, od27, .func (PySem.W.fnOf "played" "played" (defArgs s_played) (defBody s_played) (defScope s_played) .none kV27 dc27 pm27 an27 cd27 ct27), sl27⟩) (c27 : PySem.W.codeIn K cd27 "played" = true) (k27 : PySem.W.keepIn K (.ref f27) = true) (a28 : PySem.W.nsIn K mainGlobals "needs_at" = some (some (.ref f28))) (l28 : K.lookup f28 = some ⟨oc28, od28, .func (PySem.W.fnOf "needs_at" "needs_at" (defArgs s_needs_at) (defBody s_needs_at) (defScope s_needs_at) .none kV28 dc28 pm28 an28 cd28 ct28), sl28⟩) (c28 : PySem.W.codeIn K cd28 "needs_at" = true) (k28 : PySem.W.keepIn K (.ref f28) = true) (a29 : PySem.W.nsIn K mainGlobals "with_losses" = some (some (.ref f29))) (l29 : K.lookup f29 = some ⟨oc29, od29, .func (PySem.W.fnOf "with_losses" "with_losses" (defArgs s_with_losses) (defBody s_with_losses) (defScope s_with_losses) .none kV29 dc29 pm29 an29 cd29 ct29), sl29⟩) (c29 : PySem.W.codeIn K cd29 "with_losses" = true) (k29 : PySem.W.keepIn K (.ref f29) = true) (a30 : PySem.W.nsIn K mainGlobals "most_units" = some (some (.ref f30))) (l30 : K.lookup f30 = some ⟨oc30, od30, .func (PySem.W.fnOf "most_units" "most_units" (defArgs s_most_units) (defBody s_most_units) (defScope s_most_units) .none kV30 dc30 pm30 an30 cd30 ct30), sl30⟩) (c30 : PySem.W.codeIn K cd30 "most_units" = true) (k30 : PySem.W.keepIn K (.ref f30) = true) (a31 : PySem.W.nsIn K mainGlobals "best_row" = some (some (.ref f31))) (l31 : K.lookup f31 = some ⟨oc31, od31, .func (PySem.W.fnOf "best_row" "best_row" (defArgs s_best_row) (defBody s_best_row) (defScope s_best_row) .none kV31 dc31 pm31 an31 cd31 ct31), sl31⟩) (c31 : PySem.W.codeIn K cd31 "best_row" = true) (k31 : PySem.W.keepIn K (.ref f31) = true) (a32 : PySem.W.nsIn K mainGlobals "walk" = some (some (.ref f32))) (l32 : K.lookup f32 = some ⟨oc32, od32, .func (PySem.W.fnOf "walk" "walk" (defArgs s_walk) (defBody s_walk) (defScope s_walk) .none kV32 dc32 pm32 an32 cd32 ct32), sl32⟩) (c32 : PySem.W.codeIn K cd32 "walk" = true) (k32 : PySem.W.keepIn K (.ref f32) = true) (a33 : PySem.W.nsIn K mainGlobals "need_form" = some (some (.ref f33))) (l33 : K.lookup f33 = some ⟨oc33, od33, .func (PySem.W.fnOf "need_form" "need_form" (defArgs s_need_form) (defBody s_need_form) (defScope s_need_form) .none kV33 dc33 pm33 an33 cd33 ct33), sl33⟩) (c33 : PySem.W.codeIn K cd33 "need_form" = true) (k33 : PySem.W.keepIn K (.ref f33) = true) (a34 : PySem.W.nsIn K mainGlobals "surpluses" = some (some (.ref f34))) (l34 : K.lookup f34 = some ⟨oc34, od34, .func (PySem.W.fnOf "surpluses" "surpluses" (defArgs s_surpluses) (defBody s_surpluses) (defScope s_surpluses) .none kV34 dc34 pm34 an34 cd34 ct34), sl34⟩) (c34 : PySem.W.codeIn K cd34 "surpluses" = true) (k34 : PySem.W.keepIn K (.ref f34) = true) (a35 : PySem.W.nsIn K mainGlobals "points_of" = some (some (.ref f35))) (l35 : K.lookup f35 = some ⟨oc35, od35, .func (PySem.W.fnOf "points_of" "points_of" (defArgs s_points_of) (defBody s_points_of) (defScope s_points_of) .none kV35 dc35 pm35 an35 cd35 ct35), sl35⟩) (c35 : PySem.W.codeIn K cd35 "points_of" = true) (k35 : PySem.W.keepIn K (.ref f35) = true) (a36 : PySem.W.findIn K (.ref C) "score" = some (some (.ref f36))) (i36 : PySem.W.isFn K (.ref f36) = true) (l36 : K.lookup f36 = some ⟨oc36, od36, .func (PySem.W.fnOf "score" "Board.score" (defArgs s_Board_score) (defBody s_Board_score) (defScope s_Board_score) .none kV36 dc36 pm36 an36 cd36 ct36), sl36⟩) (c36 : PySem.W.codeIn K cd36 "Board.score" = true) (k36 : PySem.W.keepIn K (.ref f36) = true) (a37 : PySem.W.findIn K (.ref C) "winner" = some (some (.ref f37))) (i37 : PySem.W.isFn K (.ref f37) = true) (l37 : K.lookup f37 = some ⟨oc37, od37, .func (PySem.W.fnOf "winner" "Board.winner" (defArgs s_Board_winner) (defBody s_Board_winner) (defScope s_Board_winner) .none kV37 dc37 pm37 an37 cd37 ct37), sl37⟩) (c37 : PySem.W.codeIn K cd37 "Board.winner" = true) (k37 : PySem.W.keepIn K (.ref f37) = true) (a38 : PySem.W.nsIn K mainGlobals "round_of" = some (some (.ref f38))) (l38 : K.lookup f38 = some ⟨oc38, od38, .func (PySem.W.fnOf "round_of" "round_of" (defArgs s_round_of) (defBody s_round_of) (defScope s_round_of) .none kV38 dc38 pm38 an38 cd38 ct38), sl38⟩) (c38 : PySem.W.codeIn K cd38 "round_of" = true) (k38 : PySem.W.keepIn K (.ref f38) = true) (a39 : PySem.W.nsIn K mainGlobals "parse_form" = some (some (.ref f39))) (l39 : K.lookup f39 = some ⟨oc39, od39, .func (PySem.W.fnOf "parse_form" "parse_form" (defArgs s_parse_form) (defBody s_parse_form) (defScope s_parse_form) .none kV39 dc39 pm39 an39 cd39 ct39), sl39⟩) (c39 : PySem.W.codeIn K cd39 "parse_form" = true) (k39 : PySem.W.keepIn K (.ref f39) = true) (a40 : PySem.W.nsIn K mainGlobals "need_match" = some (some (.ref f40))) (l40 : K.lookup f40 = some ⟨oc40, od40, .func (PySem.W.fnOf "need_match" "need_match" (defArgs s_need_match) (defBody s_need_match) (defScope s_need_match) .none kV40 dc40 pm40 an40 cd40 ct40), sl40⟩) (c40 : PySem.W.codeIn K cd40 "need_match" = true) (k40 : PySem.W.keepIn K (.ref f40) = true) (a41 : PySem.W.nsIn K mainGlobals "shortest" = some (some (.ref f41))) (l41 : K.lookup f41 = some ⟨oc41, od41, .func (PySem.W.fnOf "shortest" "shortest" (defArgs s_shortest) (defBody s_shortest) (defScope s_shortest) .none kV41 dc41 pm41 an41 cd41 ct41), sl41⟩) (c41 : PySem.W.codeIn K cd41 "shortest" = true) (k41 : PySem.W.keepIn K (.ref f41) = true) (a42 : PySem.W.nsIn K mainGlobals "longest" = some (some (.ref f42))) (l42 : K.lookup f42 = some ⟨oc42, od42, .func (PySem.W.fnOf "longest" "longest" (defArgs s_longest) (defBody s_longest) (defScope s_longest) .none kV42 dc42 pm42 an42 cd42 ct42), sl42⟩) (c42 : PySem.W.codeIn K cd42 "longest" = true) (k42 : PySem.W.keepIn K (.ref f42) = true) (a43 : PySem.W.nsIn K mainGlobals "surplus" = some (some (.ref f43))) (l43 : K.lookup f43 = some ⟨oc43, od43, .func (PySem.W.fnOf "surplus" "surplus" (defArgs s_surplus) (defBody s_surplus) (defScope s_surplus) .none kV43 dc43 pm43 an43 cd43 ct43), sl43⟩) (c43 : PySem.W.codeIn K cd43 "surplus" = true) (k43 : PySem.W.keepIn K (.ref f43) = true) (a44 : PySem.W.nsIn K mainGlobals "surplus_row" = some (some (.ref f44))) (l44 : K.lookup f44 = some ⟨oc44, od44, .func (PySem.W.fnOf "surplus_row" "surplus_row" (defArgs s_surplus_row) (defBody s_surplus_row) (defScope s_surplus_row) .none kV44 dc44 pm44 an44 cd44 ct44), sl44⟩) (c44 : PySem.W.codeIn K cd44 "surplus_row" = true) (k44 : PySem.W.keepIn K (.ref f44) = true) (a45 : PySem.W.findIn K (.ref C) "__init__" = some (some (.ref f45))) (i45 : PySem.W.isFn K (.ref f45) = true) (l45 : K.lookup f45 = some ⟨oc45, od45, .func (PySem.W.fnOf "__init__" "Board.__init__" (defArgs s_Board___init__) (defBody s_Board___init__) (defScope s_Board___init__) .none kV45 dc45 pm45 an45 cd45 ct45), sl45⟩) (c45 : PySem.W.codeIn K cd45 "Board.__init__" = true) (k45 : PySem.W.keepIn K (.ref f45) = true) (a46 : PySem.W.findIn K (.ref C) "point" = some (some (.ref f46))) (i46 : PySem.W.isFn K (.ref f46) = true) (l46 : K.lookup f46 = some ⟨oc46, od46, .func (PySem.W.fnOf "point" "Board.point" (defArgs s_Board_point) (defBody s_Board_point) (defScope s_Board_point) .none kV46 dc46 pm46 an46 cd46 ct46), sl46⟩) (c46 : PySem.W.codeIn K cd46 "Board.point" = true) (k46 : PySem.W.keepIn K (.ref f46) = true) (a47 : PySem.W.findIn K (.ref C) "undo" = some (some (.ref f47))) (i47 : PySem.W.isFn K (.ref f47) = true) (l47 : K.lookup f47 = some ⟨oc47, od47, .func (PySem.W.fnOf "undo" "Board.undo" (defArgs s_Board_undo) (defBody s_Board_undo) (defScope s_Board_undo) .none kV47 dc47 pm47 an47 cd47 ct47), sl47⟩) (c47 : PySem.W.codeIn K cd47 "Board.undo" = true) (k47 : PySem.W.keepIn K (.ref f47) = true) (a48 : PySem.W.nsIn K mainGlobals "chance" = some (some (.ref f48))) (l48 : K.lookup f48 = some ⟨oc48, od48, .func (PySem.W.fnOf "chance" "chance" (defArgs s_chance) (defBody s_chance) (defScope s_chance) .none kV48 dc48 pm48 an48 cd48 ct48), sl48⟩) (c48 : PySem.W.codeIn K cd48 "chance" = true) (k48 : PySem.W.keepIn K (.ref f48) = true) (a49 : PySem.W.nsIn K mainGlobals "expectation" = some (some (.ref f49))) (l49 : K.lookup f49 = some ⟨oc49, od49, .func (PySem.W.fnOf "expectation" "expectation" (defArgs s_expectation) (defBody s_expectation) (defScope s_expectation) .none kV49 dc49 pm49 an49 cd49 ct49), sl49⟩) (c49 : PySem.W.codeIn K cd49 "expectation" = true) (k49 : PySem.W.keepIn K (.ref f49) = true) (a50 : PySem.W.nsIn K mainGlobals "format_form" = some (some (.ref f50))) (l50 : K.lookup f50 = some ⟨oc50, od50, .func (PySem.W.fnOf "format_form" "format_form" (defArgs s_format_form) (defBody s_format_form) (defScope s_format_form) .none kV50 dc50 pm50 an50 cd50 ct50), sl50⟩) (c50 : PySem.W.codeIn K cd50 "format_form" = true) (k50 : PySem.W.keepIn K (.ref f50) = true) (a51 : PySem.W.nsIn K mainGlobals "parting" = some (some (.ref f51))) (l51 : K.lookup f51 = some ⟨oc51, od51, .func (PySem.W.fnOf "parting" "parting" (defArgs s_parting) (defBody s_parting) (defScope s_parting) .none kV51 dc51 pm51 an51 cd51 ct51), sl51⟩) (c51 : PySem.W.codeIn K cd51 "parting" = true) (k51 : PySem.W.keepIn K (.ref f51) = true) (a52 : PySem.W.nsIn K mainGlobals "winner" = some (some (.ref f52))) (l52 : K.lookup f52 = some ⟨oc52, od52, .func (PySem.W.fnOf "winner" "winner" (defArgs s_winner) (defBody s_winner) (defScope s_winner) .none kV52 dc52 pm52 an52 cd52 ct52), sl52⟩) (c52 : PySem.W.codeIn K cd52 "winner" = true) (k52 : PySem.W.keepIn K (.ref f52) = true) (a53 : PySem.W.nsIn K mainGlobals "counted" = some (some (.ref f53))) (l53 : K.lookup f53 = some ⟨oc53, od53, .func (PySem.W.fnOf "counted" "counted" (defArgs s_counted) (defBody s_counted) (defScope s_counted) .none kV53 dc53 pm53 an53 cd53 ct53), sl53⟩) (c53 : PySem.W.codeIn K cd53 "counted" = true) (k53 : PySem.W.keepIn K (.ref f53) = true) (a54 : PySem.W.nsIn K mainGlobals "score" = some (some (.ref f54))) (l54 : K.lookup f54 = some ⟨oc54, od54, .func (PySem.W.fnOf "score" "score" (defArgs s_score) (defBody s_score) (defScope s_score) .none kV54 dc54 pm54 an54 cd54 ct54), sl54⟩) (c54 : PySem.W.codeIn K cd54 "score" = true) (k54 : PySem.W.keepIn K (.ref f54) = true) (a55 : PySem.W.nsIn K mainGlobals "needs" = some (some (.ref f55))) (l55 : K.lookup f55 = some ⟨oc55, od55, .func (PySem.W.fnOf "needs" "needs" (defArgs s_needs) (defBody s_needs) (defScope s_needs) .none kV55 dc55 pm55 an55 cd55 ct55), sl55⟩) (c55 : PySem.W.codeIn K cd55 "needs" = true) (k55 : PySem.W.keepIn K (.ref f55) = true) (a56 : PySem.W.nsIn K mainGlobals "least" = some (some (.ref f56))) (l56 : K.lookup f56 = some ⟨oc56, od56, .func (PySem.W.fnOf "least" "least" (defArgs s_least) (defBody s_least) (defScope s_least) .none kV56 dc56 pm56 an56 cd56 ct56), sl56⟩) (c56 : PySem.W.codeIn K cd56 "least" = true) (k56 : PySem.W.keepIn K (.ref f56) = true) (a57 : PySem.W.nsIn K mainGlobals "match_points" = some (some (.ref f57))) (l57 : K.lookup f57 = some ⟨oc57, od57, .func (PySem.W.fnOf "match_points" "match_points" (defArgs s_match_points) (defBody s_match_points) (defScope s_match_points) .none kV57 dc57 pm57 an57 cd57 ct57), sl57⟩) (c57 : PySem.W.codeIn K cd57 "match_points" = true) (k57 : PySem.W.keepIn K (.ref f57) = true) (a58 : PySem.W.findIn K (.ref C) "copy" = some (some (.ref f58))) (i58 : PySem.W.isFn K (.ref f58) = true) (l58 : K.lookup f58 = some ⟨oc58, od58, .func (PySem.W.fnOf "copy" "Board.copy" (defArgs s_Board_copy) (defBody s_Board_copy) (defScope s_Board_copy) .none kV58 dc58 pm58 an58 cd58 ct58), sl58⟩) (c58 : PySem.W.codeIn K cd58 "Board.copy" = true) (k58 : PySem.W.keepIn K (.ref f58) = true) (a59 : PySem.W.nsIn K mainGlobals "_law_refused" = some (some (.ref f59))) (l59 : K.lookup f59 = some ⟨oc59, od59, .func (PySem.W.fnOf "_law_refused" "_law_refused" (defArgs s__law_refused) (defBody s__law_refused) (defScope s__law_refused) .none kV59 dc59 pm59 an59 cd59 ct59), sl59⟩) (c59 : PySem.W.codeIn K cd59 "_law_refused" = true) (k59 : PySem.W.keepIn K (.ref f59) = true) (a60 : PySem.W.nsIn K mainGlobals "_law_boards" = some (some (.ref f60))) (l60 : K.lookup f60 = some ⟨oc60, od60, .func (PySem.W.fnOf "_law_boards" "_law_boards" (defArgs s__law_boards) (defBody s__law_boards) (defScope s__law_boards) .none kV60 dc60 pm60 an60 cd60 ct60), sl60⟩) (c60 : PySem.W.codeIn K cd60 "_law_boards" = true) (k60 : PySem.W.keepIn K (.ref f60) = true) (a61 : PySem.W.nsIn K mainGlobals "law" = some (some (.ref f61))) (l61 : K.lookup f61 = some ⟨oc61, od61, .func (PySem.W.fnOf "law" "law" (defArgs s_law) (defBody s_law) (defScope s_law) .none kV61 dc61 pm61 an61 cd61 ct61), sl61⟩) (c61 : PySem.W.codeIn K cd61 "law" = true) (k61 : PySem.W.keepIn K (.ref f61) = true) (aX5 : PySem.W.nsIn K mainGlobals "NothingToUndo" = some (some (.ref X5))) (aX6 : PySem.W.nsIn K mainGlobals "InvalidFormat" = some (some (.ref X6))) (xX5 : PySem.W.excIn K X5 [.type "ValueError", .type "Exception", .type "BaseException", .type "object"] "ValueError.__new__" = true) (kX5 : PySem.W.keepIn K (.ref X5) = true) (bX5 : PySem.W.subIn K (.ref X5) (.type "BaseException") = some true) (tX5 : PySem.W.typeIn K (.ref X5) = some (.type "type")) (xX6 : PySem.W.excIn K X6 [.type "ValueError", .type "Exception", .type "BaseException", .type "object"] "ValueError.__new__" = true) (kX6 : PySem.W.keepIn K (.ref X6) = true) (bX6 : PySem.W.subIn K (.ref X6) (.type "BaseException") = some true) (tX6 : PySem.W.typeIn K (.ref X6) = some (.type "type")) (dX5 : PySem.W.hasDictIn K X5 = true) (dX6 : PySem.W.hasDictIn K X6 = true) (e5X5 : PySem.W.subIn K (.ref X5) (.ref X5) = some true) (e5X6 : PySem.W.subIn K (.ref X6) (.ref X5) = some false) (e6X6 : PySem.W.subIn K (.ref X6) (.ref X6) = some true) (z_abs : PySem.W.nsIn K mainGlobals "abs" = some none) (z_all : PySem.W.nsIn K mainGlobals "all" = some none) (z_bool : PySem.W.nsIn K mainGlobals "bool" = some none) (z_enumerate : PySem.W.nsIn K mainGlobals "enumerate" = some none) (z_int : PySem.W.nsIn K mainGlobals "int" = some none) (z_isinstance : PySem.W.nsIn K mainGlobals "isinstance" = some none) (z_len : PySem.W.nsIn K mainGlobals "len" = some none) (z_list : PySem.W.nsIn K mainGlobals "list" = some none) (z_max : PySem.W.nsIn K mainGlobals "max" = some none) (z_min : PySem.W.nsIn K mainGlobals "min" = some none) (z_range : PySem.W.nsIn K mainGlobals "range" = some none) (z_str : PySem.W.nsIn K mainGlobals "str" = some none) (z_sum : PySem.W.nsIn K mainGlobals "sum" = some none) (z_tuple : PySem.W.nsIn K mainGlobals "tuple" = some none) (z_zip : PySem.W.nsIn K mainGlobals "zip" = some none) {t_TARGET : Tok} (z_TARGET : PySem.W.nsIn K mainGlobals "TARGET" = some (some (.int 5 t_TARGET))) {t_LEAD : Tok} (z_LEAD : PySem.W.nsIn K mainGlobals "LEAD" = some (some (.int 3 t_LEAD))) {t_CAP : Tok} (z_CAP : PySem.W.nsIn K mainGlobals "CAP" = some (some (.int 9 t_CAP))) {t_LEVELS : Tok} (z_LEVELS : PySem.W.nsIn K mainGlobals "LEVELS" = some (some (.int 3 t_LEVELS))) {t_POINTS : Tok} (z_POINTS : PySem.W.nsIn K mainGlobals "POINTS" = some (some (.int 200 t_POINTS))) {t_DIGITS : Tok} (z_DIGITS : PySem.W.nsIn K mainGlobals "DIGITS" = some (some (.str "0123456789" t_DIGITS))) :
    ∃ fd : FuncData, (∀ (s : Shared) (v : Value), BindsTo s fd ⟨[v], []⟩ [("_law_script", v)]) ∧ ∀ base : Heap, K.In base → base.Ns mainGlobals mg → FnOk l.prog w K mg base (L2.CX l.prog w) 9 fa fd ["_law_script"] (spOf ⟨l.prog, w, K⟩ (xmOf K) 1 f_law) := by
  have e := hfa.symm.trans (PySem.W.mg_of X G a61)
  cases e
  have T : TX mg := ⟨PySem.W.mg_none_of X G z_abs, PySem.W.mg_none_of X G z_all, PySem.W.mg_none_of X G z_bool, PySem.W.mg_none_of X G z_enumerate, PySem.W.mg_none_of X G z_int, PySem.W.mg_none_of X G z_isinstance, PySem.W.mg_none_of X G z_len, PySem.W.mg_none_of X G z_list, PySem.W.mg_none_of X G z_max, PySem.W.mg_none_of X G z_min, PySem.W.mg_none_of X G z_range, PySem.W.mg_none_of X G z_str, PySem.W.mg_none_of X G z_sum, PySem.W.mg_none_of X G z_tuple, PySem.W.mg_none_of X G z_zip, ⟨_, PySem.W.mg_of X G z_TARGET⟩, ⟨_, PySem.W.mg_of X G z_LEAD⟩, ⟨_, PySem.W.mg_of X G z_CAP⟩, ⟨_, PySem.W.mg_of X G z_LEVELS⟩, ⟨_, PySem.W.mg_of X G z_POINTS⟩, ⟨_, PySem.W.mg_of X G z_DIGITS⟩⟩
  have Bc : Bdx K mg C := ⟨⟨aC, ⟨pgC, hdC, poC, saC⟩, nFC, nPC⟩, PySem.W.mg_of X G aC⟩
  have x5 : xmOf K 5 = .ref X5 := xm_of aX5
  have E5 : EC K mg (xmOf K) "NothingToUndo" 5 X5 := ⟨PySem.W.mg_of X G aX5, x5, xX5, kX5, bX5, tX5⟩
  have x6 : xmOf K 6 = .ref X6 := xm_of aX6
  have E6 : EC K mg (xmOf K) "InvalidFormat" 6 X6 := ⟨PySem.W.mg_of X G aX6, x6, xX6, kX6, bX6, tX6⟩
  have h55 : PySem.W.exmOne K (xmOf K 5) (.ref X5) = some true := by rw [x5]; exact PySem.W.exm_ref bX5 dX5 tX5 e5X5
  have h65 : PySem.W.exmOne K (xmOf K 6) (.ref X5) = some false := by rw [x6]; exact PySem.W.exm_ref bX5 dX5 tX5 e5X6
  have h66 : PySem.W.exmOne K (xmOf K 6) (.ref X6) = some true := by rw [x6]; exact PySem.W.exm_ref bX6 dX6 tX6 e6X6
  have F1 := fun_mk (st := s_is_count) l1 c1 k1
  have D1 : Df K mg "is_count" s_is_count ["value", "least", "most"] _ _ := ⟨F1, PySem.W.mg_of X G a1, F1.binds (ps := ["value", "least", "most"]) fun _ _ _ _ _ _ us hl => match us, hl with | [_, _, _], _ => rfl⟩
  have F2 := fun_mk (st := s_round_winner) l2 c2 k2
  have D2 : Df K mg "round_winner" s_round_winner ["level", "pair"] _ _ := ⟨F2, PySem.W.mg_of X G a2, F2.binds (ps := ["level", "pair"]) fun _ _ _ _ _ _ us hl => match us, hl with | [_, _], _ => rfl⟩
  have F3 := fun_mk (st := s_start_of) l3 c3 k3
  have D3 : Df K mg "start_of" s_start_of ["form"] _ _ := ⟨F3, PySem.W.mg_of X G a3, F3.binds (ps := ["form"]) fun _ _ _ _ _ _ us hl => match us, hl with | [_], _ => rfl⟩
  have F4 := fun_mk (st := s_plus) l4 c4 k4
  have D4 : Df K mg "plus" s_plus ["pair", "side"] _ _ := ⟨F4, PySem.W.mg_of X G a4, F4.binds (ps := ["pair", "side"]) fun _ _ _ _ _ _ us hl => match us, hl with | [_, _], _ => rfl⟩
  have F5 := fun_mk (st := s_settled) l5 c5 k5
  have D5 : Df K mg "settled" s_settled ["form", "now"] _ _ := ⟨F5, PySem.W.mg_of X G a5, F5.binds (ps := ["form", "now"]) fun _ _ _ _ _ _ us hl => match us, hl with | [_, _], _ => rfl⟩
  have F6 := fun_mk (st := s_least_units) l6 c6 k6
  have D6 : Df K mg "least_units" s_least_units ["level"] _ _ := ⟨F6, PySem.W.mg_of X G a6, F6.binds (ps := ["level"]) fun _ _ _ _ _ _ us hl => match us, hl with | [_], _ => rfl⟩
  have F7 := fun_mk (st := s_Board___len__) l7 c7 k7
  have D7 : Dm K C "__len__" "Board.__len__" s_Board___len__ ["self"] _ _ := ⟨F7, ⟨a7, i7, k7⟩, F7.binds (ps := ["self"]) fun _ _ _ _ _ _ us hl => match us, hl with | [_], _ => rfl⟩
  have F8 := fun_mk (st := s_lowest) l8 c8 k8
  have D8 : Df K mg "lowest" s_lowest ["numerator", "denominator"] _ _ := ⟨F8, PySem.W.mg_of X G a8, F8.binds (ps := ["numerator", "denominator"]) fun _ _ _ _ _ _ us hl => match us, hl with | [_, _], _ => rfl⟩
  have F9 := fun_mk (st := s_power) l9 c9 k9
  have D9 : Df K mg "power" s_power ["base", "many"] _ _ := ⟨F9, PySem.W.mg_of X G a9, F9.binds (ps := ["base", "many"]) fun _ _ _ _ _ _ us hl => match us, hl with | [_, _], _ => rfl⟩
  have F10 := fun_mk (st := s_formatted) l10 c10 k10
  have D10 : Df K mg "formatted" s_formatted ["form"] _ _ := ⟨F10, PySem.W.mg_of X G a10, F10.binds (ps := ["form"]) fun _ _ _ _ _ _ us hl => match us, hl with | [_], _ => rfl⟩
  have F11 := fun_mk (st := s_number_of) l11 c11 k11
  have D11 : Df K mg "number_of" s_number_of ["text"] _ _ := ⟨F11, PySem.W.mg_of X G a11, F11.binds (ps := ["text"]) fun _ _ _ _ _ _ us hl => match us, hl with | [_], _ => rfl⟩
  have F12 := fun_mk (st := s_row_to) l12 c12 k12
  have D12 : Df K mg "row_to" s_row_to ["sources", "key"] _ _ := ⟨F12, PySem.W.mg_of X G a12, F12.binds (ps := ["sources", "key"]) fun _ _ _ _ _ _ us hl => match us, hl with | [_, _], _ => rfl⟩
  have F13 := fun_mk (st := s__law_draw) l13 c13 k13
  have D13 : Df K mg "_law_draw" s__law_draw ["_law_script", "_law_town", "_law_many"] _ _ := ⟨F13, PySem.W.mg_of X G a13, F13.binds (ps := ["_law_script", "_law_town", "_law_many"]) fun _ _ _ _ _ _ us hl => match us, hl with | [_, _, _], _ => rfl⟩
  have F14 := fun_mk (st := s__law_turned) l14 c14 k14
  have D14 : Df K mg "_law_turned" s__law_turned ["_law_pair", "_law_side"] _ _ := ⟨F14, PySem.W.mg_of X G a14, F14.binds (ps := ["_law_pair", "_law_side"]) fun _ _ _ _ _ _ us hl => match us, hl with | [_, _], _ => rfl⟩
  have F15 := fun_mk (st := s_is_level) l15 c15 k15
  have D15 : Df K mg "is_level" s_is_level ["value"] _ _ := ⟨F15, PySem.W.mg_of X G a15, F15.binds (ps := ["value"]) fun _ _ _ _ _ _ us hl => match us, hl with | [_], _ => rfl⟩
  have F16 := fun_mk (st := s_is_side) l16 c16 k16
  have D16 : Df K mg "is_side" s_is_side ["value"] _ _ := ⟨F16, PySem.W.mg_of X G a16, F16.binds (ps := ["value"]) fun _ _ _ _ _ _ us hl => match us, hl with | [_], _ => rfl⟩
  have F17 := fun_mk (st := s_after) l17 c17 k17
  have D17 : Df K mg "after" s_after ["form", "score", "side"] _ _ := ⟨F17, PySem.W.mg_of X G a17, F17.binds (ps := ["form", "score", "side"]) fun _ _ _ _ _ _ us hl => match us, hl with | [_, _, _], _ => rfl⟩
  have F18 := fun_mk (st := s_rounds) l18 c18 k18
  have D18 : Df K mg "rounds" s_rounds ["level"] _ _ := ⟨F18, PySem.W.mg_of X G a18, F18.binds (ps := ["level"]) fun _ _ _ _ _ _ us hl => match us, hl with | [_], _ => rfl⟩
  have F19 := fun_mk (st := s_times) l19 c19 k19
  have D19 : Df K mg "times" s_times ["one", "two"] _ _ := ⟨F19, PySem.W.mg_of X G a19, F19.binds (ps := ["one", "two"]) fun _ _ _ _ _ _ us hl => match us, hl with | [_, _], _ => rfl⟩
  have F20 := fun_mk (st := s_added) l20 c20 k20
  have D20 : Df K mg "added" s_added ["one", "two"] _ _ := ⟨F20, PySem.W.mg_of X G a20, F20.binds (ps := ["one", "two"]) fun _ _ _ _ _ _ us hl => match us, hl with | [_, _], _ => rfl⟩
  have F21 := fun_mk (st := s_ends_of) l21 c21 k21
  have D21 : Df K mg "ends_of" s_ends_of ["level"] _ _ := ⟨F21, PySem.W.mg_of X G a21, F21.binds (ps := ["level"]) fun _ _ _ _ _ _ us hl => match us, hl with | [_], _ => rfl⟩
  have F22 := fun_mk (st := s_need_chance) l22 c22 k22
  have D22 : Df K mg "need_chance" s_need_chance ["value"] _ _ := ⟨F22, PySem.W.mg_of X G a22, F22.binds (ps := ["value"]) fun _ _ _ _ _ _ us hl => match us, hl with | [_], _ => rfl⟩
  have F23 := fun_mk (st := s_parsed_level) l23 c23 k23
  have D23 : Df K mg "parsed_level" s_parsed_level ["word"] _ _ := ⟨F23, PySem.W.mg_of X G a23, F23.binds (ps := ["word"]) fun _ _ _ _ _ _ us hl => match us, hl with | [_], _ => rfl⟩
  have F24 := fun_mk (st := s_is_form) l24 c24 k24
  have D24 : Df K mg "is_form" s_is_form ["value"] _ _ := ⟨F24, PySem.W.mg_of X G a24, F24.binds (ps := ["value"]) fun _ _ _ _ _ _ us hl => match us, hl with | [_], _ => rfl⟩
  have F25 := fun_mk (st := s_need_side) l25 c25 k25
  have D25 : Df K mg "need_side" s_need_side ["value"] _ _ := ⟨F25, PySem.W.mg_of X G a25, F25.binds (ps := ["value"]) fun _ _ _ _ _ _ us hl => match us, hl with | [_], _ => rfl⟩
  have F26 := fun_mk (st := s_need_row) l26 c26 k26
  have D26 : Df K mg "need_row" s_need_row ["value"] _ _ := ⟨F26, PySem.W.mg_of X G a26, F26.binds (ps := ["value"]) fun _ _ _ _ _ _ us hl => match us, hl with | [_], _ => rfl⟩
  have F27 := fun_mk (st := s_played) l27 c27 k27
  have D27 : Df K mg "played" s_played ["form", "row"] _ _ := ⟨F27, PySem.W.mg_of X G a27, F27.binds (ps := ["form", "row"]) fun _ _ _ _ _ _ us hl => match us, hl with | [_, _], _ => rfl⟩
  have F28 := fun_mk (st := s_needs_at) l28 c28 k28
  have D28 : Df K mg "needs_at" s_needs_at ["form", "now", "won", "side"] _ _ := ⟨F28, PySem.W.mg_of X G a28, F28.binds (ps := ["form", "now", "won", "side"]) fun _ _ _ _ _ _ us hl => match us, hl with | [_, _, _, _], _ => rfl⟩
  have F29 := fun_mk (st := s_with_losses) l29 c29 k29
  have D29 : Df K mg "with_losses" s_with_losses ["form", "scores", "seen", "side"] _ _ := ⟨F29, PySem.W.mg_of X G a29, F29.binds (ps := ["form", "scores", "seen", "side"]) fun _ _ _ _ _ _ us hl => match us, hl with | [_, _, _, _], _ => rfl⟩
  have F30 := fun_mk (st := s_most_units) l30 c30 k30
  have D30 : Df K mg "most_units" s_most_units ["level"] _ _ := ⟨F30, PySem.W.mg_of X G a30, F30.binds (ps := ["level"]) fun _ _ _ _ _ _ us hl => match us, hl with | [_], _ => rfl⟩
  have F31 := fun_mk (st := s_best_row) l31 c31 k31
  have D31 : Df K mg "best_row" s_best_row ["level", "wins", "units"] _ _ := ⟨F31, PySem.W.mg_of X G a31, F31.binds (ps := ["level", "wins", "units"]) fun _ _ _ _ _ _ us hl => match us, hl with | [_, _, _], _ => rfl⟩
  have F32 := fun_mk (st := s_walk) l32 c32 k32
  have D32 : Df K mg "walk" s_walk ["chance", "lead", "ahead"] _ _ := ⟨F32, PySem.W.mg_of X G a32, F32.binds (ps := ["chance", "lead", "ahead"]) fun _ _ _ _ _ _ us hl => match us, hl with | [_, _, _], _ => rfl⟩
  have F33 := fun_mk (st := s_need_form) l33 c33 k33
  have D33 : Df K mg "need_form" s_need_form ["value"] _ _ := ⟨F33, PySem.W.mg_of X G a33, F33.binds (ps := ["value"]) fun _ _ _ _ _ _ us hl => match us, hl with | [_], _ => rfl⟩
  have F34 := fun_mk (st := s_surpluses) l34 c34 k34
  have D34 : Df K mg "surpluses" s_surpluses ["form"] _ _ := ⟨F34, PySem.W.mg_of X G a34, F34.binds (ps := ["form"]) fun _ _ _ _ _ _ us hl => match us, hl with | [_], _ => rfl⟩
  have F35 := fun_mk (st := s_points_of) l35 c35 k35
  have D35 : Df K mg "points_of" s_points_of ["found", "at", "side"] _ _ := ⟨F35, PySem.W.mg_of X G a35, F35.binds (ps := ["found", "at", "side"]) fun _ _ _ _ _ _ us hl => match us, hl with | [_, _, _], _ => rfl⟩
  have F36 := fun_mk (st := s_Board_score) l36 c36 k36
  have D36 : Dm K C "score" "Board.score" s_Board_score ["self"] _ _ := ⟨F36, ⟨a36, i36, k36⟩, F36.binds (ps := ["self"]) fun _ _ _ _ _ _ us hl => match us, hl with | [_], _ => rfl⟩
  have F37 := fun_mk (st := s_Board_winner) l37 c37 k37
  have D37 : Dm K C "winner" "Board.winner" s_Board_winner ["self"] _ _ := ⟨F37, ⟨a37, i37, k37⟩, F37.binds (ps := ["self"]) fun _ _ _ _ _ _ us hl => match us, hl with | [_], _ => rfl⟩
  have F38 := fun_mk (st := s_round_of) l38 c38 k38
  have D38 : Df K mg "round_of" s_round_of ["level", "chance"] _ _ := ⟨F38, PySem.W.mg_of X G a38, F38.binds (ps := ["level", "chance"]) fun _ _ _ _ _ _ us hl => match us, hl with | [_, _], _ => rfl⟩
  have F39 := fun_mk (st := s_parse_form) l39 c39 k39
  have D39 : Df K mg "parse_form" s_parse_form ["text"] _ _ := ⟨F39, PySem.W.mg_of X G a39, F39.binds (ps := ["text"]) fun _ _ _ _ _ _ us hl => match us, hl with | [_], _ => rfl⟩
  have F40 := fun_mk (st := s_need_match) l40 c40 k40
  have D40 : Df K mg "need_match" s_need_match ["form", "row"] _ _ := ⟨F40, PySem.W.mg_of X G a40, F40.binds (ps := ["form", "row"]) fun _ _ _ _ _ _ us hl => match us, hl with | [_, _], _ => rfl⟩
  have F41 := fun_mk (st := s_shortest) l41 c41 k41
  have D41 : Df K mg "shortest" s_shortest ["form"] _ _ := ⟨F41, PySem.W.mg_of X G a41, F41.binds (ps := ["form"]) fun _ _ _ _ _ _ us hl => match us, hl with | [_], _ => rfl⟩
  have F42 := fun_mk (st := s_longest) l42 c42 k42
  have D42 : Df K mg "longest" s_longest ["form"] _ _ := ⟨F42, PySem.W.mg_of X G a42, F42.binds (ps := ["form"]) fun _ _ _ _ _ _ us hl => match us, hl with | [_], _ => rfl⟩
  have F43 := fun_mk (st := s_surplus) l43 c43 k43
  have D43 : Df K mg "surplus" s_surplus ["form"] _ _ := ⟨F43, PySem.W.mg_of X G a43, F43.binds (ps := ["form"]) fun _ _ _ _ _ _ us hl => match us, hl with | [_], _ => rfl⟩
  have F44 := fun_mk (st := s_surplus_row) l44 c44 k44
  have D44 : Df K mg "surplus_row" s_surplus_row ["form"] _ _ := ⟨F44, PySem.W.mg_of X G a44, F44.binds (ps := ["form"]) fun _ _ _ _ _ _ us hl => match us, hl with | [_], _ => rfl⟩
  have F45 := fun_mk (st := s_Board___init__) l45 c45 k45
  have D45 : Dk K C "Board.__init__" s_Board___init__ ["self", "form"] _ _ := ⟨F45, ⟨mkC, a45, i45, kcC⟩, F45.binds (ps := ["self", "form"]) fun _ _ _ _ _ _ us hl => match us, hl with | [_, _], _ => rfl⟩
  have F46 := fun_mk (st := s_Board_point) l46 c46 k46
  have D46 : Dm K C "point" "Board.point" s_Board_point ["self", "side"] _ _ := ⟨F46, ⟨a46, i46, k46⟩, F46.binds (ps := ["self", "side"]) fun _ _ _ _ _ _ us hl => match us, hl with | [_, _], _ => rfl⟩
  have F47 := fun_mk (st := s_Board_undo) l47 c47 k47
  have D47 : Dm K C "undo" "Board.undo" s_Board_undo ["self"] _ _ := ⟨F47, ⟨a47, i47, k47⟩, F47.binds (ps := ["self"]) fun _ _ _ _ _ _ us hl => match us, hl with | [_], _ => rfl⟩
  have F48 := fun_mk (st := s_chance) l48 c48 k48
  have D48 : Df K mg "chance" s_chance ["form", "point"] _ _ := ⟨F48, PySem.W.mg_of X G a48, F48.binds (ps := ["form", "point"]) fun _ _ _ _ _ _ us hl => match us, hl with | [_, _], _ => rfl⟩
  have F49 := fun_mk (st := s_expectation) l49 c49 k49
  have D49 : Df K mg "expectation" s_expectation ["form", "point"] _ _ := ⟨F49, PySem.W.mg_of X G a49, F49.binds (ps := ["form", "point"]) fun _ _ _ _ _ _ us hl => match us, hl with | [_, _], _ => rfl⟩
  have F50 := fun_mk (st := s_format_form) l50 c50 k50
  have D50 : Df K mg "format_form" s_format_form ["form"] _ _ := ⟨F50, PySem.W.mg_of X G a50, F50.binds (ps := ["form"]) fun _ _ _ _ _ _ us hl => match us, hl with | [_], _ => rfl⟩
  have F51 := fun_mk (st := s_parting) l51 c51 k51
  have D51 : Df K mg "parting" s_parting ["form", "other"] _ _ := ⟨F51, PySem.W.mg_of X G a51, F51.binds (ps := ["form", "other"]) fun _ _ _ _ _ _ us hl => match us, hl with | [_, _], _ => rfl⟩
  have F52 := fun_mk (st := s_winner) l52 c52 k52
  have D52 : Df K mg "winner" s_winner ["form", "row"] _ _ := ⟨F52, PySem.W.mg_of X G a52, F52.binds (ps := ["form", "row"]) fun _ _ _ _ _ _ us hl => match us, hl with | [_, _], _ => rfl⟩
  have F53 := fun_mk (st := s_counted) l53 c53 k53
  have D53 : Df K mg "counted" s_counted ["form", "row"] _ _ := ⟨F53, PySem.W.mg_of X G a53, F53.binds (ps := ["form", "row"]) fun _ _ _ _ _ _ us hl => match us, hl with | [_, _], _ => rfl⟩
  have F54 := fun_mk (st := s_score) l54 c54 k54
  have D54 : Df K mg "score" s_score ["form", "row"] _ _ := ⟨F54, PySem.W.mg_of X G a54, F54.binds (ps := ["form", "row"]) fun _ _ _ _ _ _ us hl => match us, hl with | [_, _], _ => rfl⟩
  have F55 := fun_mk (st := s_needs) l55 c55 k55
  have D55 : Df K mg "needs" s_needs ["form", "row", "side"] _ _ := ⟨F55, PySem.W.mg_of X G a55, F55.binds (ps := ["form", "row", "side"]) fun _ _ _ _ _ _ us hl => match us, hl with | [_, _, _], _ => rfl⟩
  have F56 := fun_mk (st := s_least) l56 c56 k56
  have D56 : Df K mg "least" s_least ["form", "row", "side"] _ _ := ⟨F56, PySem.W.mg_of X G a56, F56.binds (ps := ["form", "row", "side"]) fun _ _ _ _ _ _ us hl => match us, hl with | [_, _, _], _ => rfl⟩
  have F57 := fun_mk (st := s_match_points) l57 c57 k57
  have D57 : Df K mg "match_points" s_match_points ["form", "row"] _ _ := ⟨F57, PySem.W.mg_of X G a57, F57.binds (ps := ["form", "row"]) fun _ _ _ _ _ _ us hl => match us, hl with | [_, _], _ => rfl⟩
  have F58 := fun_mk (st := s_Board_copy) l58 c58 k58
  have D58 : Dm K C "copy" "Board.copy" s_Board_copy ["self"] _ _ := ⟨F58, ⟨a58, i58, k58⟩, F58.binds (ps := ["self"]) fun _ _ _ _ _ _ us hl => match us, hl with | [_], _ => rfl⟩
  have F59 := fun_mk (st := s__law_refused) l59 c59 k59
  have D59 : Df K mg "_law_refused" s__law_refused ["_law_what", "_law_form"] _ _ := ⟨F59, PySem.W.mg_of X G a59, F59.binds (ps := ["_law_what", "_law_form"]) fun _ _ _ _ _ _ us hl => match us, hl with | [_, _], _ => rfl⟩
  have F60 := fun_mk (st := s__law_boards) l60 c60 k60
  have D60 : Df K mg "_law_boards" s__law_boards ["_law_form", "_law_side"] _ _ := ⟨F60, PySem.W.mg_of X G a60, F60.binds (ps := ["_law_form", "_law_side"]) fun _ _ _ _ _ _ us hl => match us, hl with | [_, _], _ => rfl⟩
  have F61 := fun_mk (st := s_law) l61 c61 k61
  have D61 : Df K mg "law" s_law ["_law_script"] _ _ := ⟨F61, PySem.W.mg_of X G a61, F61.binds (ps := ["_law_script"]) fun _ _ _ _ _ _ us hl => match us, hl with | [_], _ => rfl⟩
  refine ⟨PySem.W.fnOf "law" "law" (defArgs s_law) (defBody s_law) (defScope s_law) .none kV61 dc61 pm61 an61 cd61 ct61, fun s v => .of_eq rfl, fun base _ _ => ?_⟩
  have G1 : FnOk l.prog w K mg base (L2.CX l.prog w) _ _ _ _ (spOf ⟨l.prog, w, K⟩ (xmOf K) _ f_is_count) := ok_is_count F1 T
  have G2 : FnOk l.prog w K mg base (L2.CX l.prog w) _ _ _ _ (spOf ⟨l.prog, w, K⟩ (xmOf K) _ f_round_winner) := ok_round_winner F2 T
  have G3 : FnOk l.prog w K mg base (L2.CX l.prog w) _ _ _ _ (spOf ⟨l.prog, w, K⟩ (xmOf K) _ f_start_of) := ok_start_of F3 T
  have G4 : FnOk l.prog w K mg base (L2.CX l.prog w) _ _ _ _ (spOf ⟨l.prog, w, K⟩ (xmOf K) _ f_plus) := ok_plus F4 T
  have G5 : FnOk l.prog w K mg base (L2.CX l.prog w) _ _ _ _ (spOf ⟨l.prog, w, K⟩ (xmOf K) _ f_settled) := ok_settled F5 T
  have G6 : FnOk l.prog w K mg base (L2.CX l.prog w) _ _ _ _ (spOf ⟨l.prog, w, K⟩ (xmOf K) _ f_least_units) := ok_least_units F6 T
  have G7 : FnOk l.prog w K mg base (L2.CX l.prog w) _ _ _ _ (spOf ⟨l.prog, w, K⟩ (xmOf K) _ f_Board___len__) := ok_Board___len__ F7 T Bc
  have G8 : FnOk l.prog w K mg base (L2.CX l.prog w) _ _ _ _ (spOf ⟨l.prog, w, K⟩ (xmOf K) _ f_lowest) := ok_lowest F8 T
  have G9 : FnOk l.prog w K mg base (L2.CX l.prog w) _ _ _ _ (spOf ⟨l.prog, w, K⟩ (xmOf K) _ f_power) := ok_power F9 T
  have G10 : FnOk l.prog w K mg base (L2.CX l.prog w) _ _ _ _ (spOf ⟨l.prog, w, K⟩ (xmOf K) _ f_formatted) := ok_formatted F10 T
  have G11 : FnOk l.prog w K mg base (L2.CX l.prog w) _ _ _ _ (spOf ⟨l.prog, w, K⟩ (xmOf K) _ f_number_of) := ok_number_of F11 T
  have G12 : FnOk l.prog w K mg base (L2.CX l.prog w) _ _ _ _ (spOf ⟨l.prog, w, K⟩ (xmOf K) _ f_row_to) := ok_row_to F12 T
  have G13 : FnOk l.prog w K mg base (L2.CX l.prog w) _ _ _ _ (spOf ⟨l.prog, w, K⟩ (xmOf K) _ f__law_draw) := ok__law_draw F13 T
  have G14 : FnOk l.prog w K mg base (L2.CX l.prog w) _ _ _ _ (spOf ⟨l.prog, w, K⟩ (xmOf K) _ f__law_turned) := ok__law_turned F14 T
  have G15 : FnOk l.prog w K mg base (L2.CX l.prog w) _ _ _ _ (spOf ⟨l.prog, w, K⟩ (xmOf K) _ f_is_level) := ok_is_level F15 T D1 G1
  have G16 : FnOk l.prog w K mg base (L2.CX l.prog w) _ _ _ _ (spOf ⟨l.prog, w, K⟩ (xmOf K) _ f_is_side) := ok_is_side F16 T D1 G1
  have G17 : FnOk l.prog w K mg base (L2.CX l.prog w) _ _ _ _ (spOf ⟨l.prog, w, K⟩ (xmOf K) _ f_after) := ok_after F17 T D2 G2 D4 G4
  have G18 : FnOk l.prog w K mg base (L2.CX l.prog w) _ _ _ _ (spOf ⟨l.prog, w, K⟩ (xmOf K) _ f_rounds) := ok_rounds F18 T D2 G2 D4 G4
  have G19 : FnOk l.prog w K mg base (L2.CX l.prog w) _ _ _ _ (spOf ⟨l.prog, w, K⟩ (xmOf K) _ f_times) := ok_times F19 T D8 G8
  have G20 : FnOk l.prog w K mg base (L2.CX l.prog w) _ _ _ _ (spOf ⟨l.prog, w, K⟩ (xmOf K) _ f_added) := ok_added F20 T D8 G8
  have G21 : FnOk l.prog w K mg base (L2.CX l.prog w) _ _ _ _ (spOf ⟨l.prog, w, K⟩ (xmOf K) _ f_ends_of) := ok_ends_of F21 T D2 G2 D4 G4
  have G22 : FnOk l.prog w K mg base (L2.CX l.prog w) _ _ _ _ (spOf ⟨l.prog, w, K⟩ (xmOf K) _ f_need_chance) := ok_need_chance F22 T D1 G1
  have G23 : FnOk l.prog w K mg base (L2.CX l.prog w) _ _ _ _ (spOf ⟨l.prog, w, K⟩ (xmOf K) _ f_parsed_level) := ok_parsed_level F23 T D11 G11
  have G24 : FnOk l.prog w K mg base (L2.CX l.prog w) _ _ _ _ (spOf ⟨l.prog, w, K⟩ (xmOf K) _ f_is_form) := ok_is_form F24 T D15 G15
  have G25 : FnOk l.prog w K mg base (L2.CX l.prog w) _ _ _ _ (spOf ⟨l.prog, w, K⟩ (xmOf K) _ f_need_side) := ok_need_side F25 T D16 G16
  have G26 : FnOk l.prog w K mg base (L2.CX l.prog w) _ _ _ _ (spOf ⟨l.prog, w, K⟩ (xmOf K) _ f_need_row) := ok_need_row F26 T D16 G16
  have G27 : FnOk l.prog w K mg base (L2.CX l.prog w) _ _ _ _ (spOf ⟨l.prog, w, K⟩ (xmOf K) _ f_played) := ok_played F27 T D3 G3 D17 G17
  have G28 : FnOk l.prog w K mg base (L2.CX l.prog w) _ _ _ _ (spOf ⟨l.prog, w, K⟩ (xmOf K) _ f_needs_at) := ok_needs_at F28 T D17 G17
  have G29 : FnOk l.prog w K mg base (L2.CX l.prog w) _ _ _ _ (spOf ⟨l.prog, w, K⟩ (xmOf K) _ f_with_losses) := ok_with_losses F29 T D17 G17 D5 G5
  have G30 : FnOk l.prog w K mg base (L2.CX l.prog w) _ _ _ _ (spOf ⟨l.prog, w, K⟩ (xmOf K) _ f_most_units) := ok_most_units F30 T D18 G18
  have G31 : FnOk l.prog w K mg base (L2.CX l.prog w) _ _ _ _ (spOf ⟨l.prog, w, K⟩ (xmOf K) _ f_best_row) := ok_best_row F31 T D2 G2 D18 G18
  have G32 : FnOk l.prog w K mg base (L2.CX l.prog w) _ _ _ _ (spOf ⟨l.prog, w, K⟩ (xmOf K) _ f_walk) := ok_walk F32 T D8 G8 D19 G19 D20 G20 D9 G9
  have G33 : FnOk l.prog w K mg base (L2.CX l.prog w) _ _ _ _ (spOf ⟨l.prog, w, K⟩ (xmOf K) _ f_need_form) := ok_need_form F33 T D24 G24
  have G34 : FnOk l.prog w K mg base (L2.CX l.prog w) _ _ _ _ (spOf ⟨l.prog, w, K⟩ (xmOf K) _ f_surpluses) := ok_surpluses F34 T D31 G31
  have G35 : FnOk l.prog w K mg base (L2.CX l.prog w) _ _ _ _ (spOf ⟨l.prog, w, K⟩ (xmOf K) _ (f_points_of 4)) := ok_points_of F35 D35 T 4
  have G36 : FnOk l.prog w K mg base (L2.CX l.prog w) _ _ _ _ (spOf ⟨l.prog, w, K⟩ (xmOf K) _ f_Board_score) := ok_Board_score F36 T Bc D27 G27
  have G37 : FnOk l.prog w K mg base (L2.CX l.prog w) _ _ _ _ (spOf ⟨l.prog, w, K⟩ (xmOf K) _ f_Board_winner) := ok_Board_winner F37 T Bc D27 G27
  have G38 : FnOk l.prog w K mg base (L2.CX l.prog w) _ _ _ _ (spOf ⟨l.prog, w, K⟩ (xmOf K) _ f_round_of) := ok_round_of F38 T D2 G2 D8 G8 D19 G19 D20 G20 D9 G9 D32 G32 D21 G21
  have G39 : FnOk l.prog w K mg base (L2.CX l.prog w) _ _ _ _ (spOf ⟨l.prog, w, K⟩ (xmOf K) _ f_parse_form) := ok_parse_form F39 T E6 D24 G24 D10 G10 D23 G23
  have G40 : FnOk l.prog w K mg base (L2.CX l.prog w) _ _ _ _ (spOf ⟨l.prog, w, K⟩ (xmOf K) _ f_need_match) := ok_need_match F40 T D33 G33 D26 G26
  have G41 : FnOk l.prog w K mg base (L2.CX l.prog w) _ _ _ _ (spOf ⟨l.prog, w, K⟩ (xmOf K) _ f_shortest) := ok_shortest F41 T D33 G33 D6 G6
  have G42 : FnOk l.prog w K mg base (L2.CX l.prog w) _ _ _ _ (spOf ⟨l.prog, w, K⟩ (xmOf K) _ f_longest) := ok_longest F42 T D33 G33 D30 G30
  have G43 : FnOk l.prog w K mg base (L2.CX l.prog w) _ _ _ _ (spOf ⟨l.prog, w, K⟩ (xmOf K) _ f_surplus) := ok_surplus F43 T D33 G33 D34 G34
  have G44 : FnOk l.prog w K mg base (L2.CX l.prog w) _ _ _ _ (spOf ⟨l.prog, w, K⟩ (xmOf K) _ f_surplus_row) := ok_surplus_row F44 T D33 G33 D34 G34 D35 G35
  have G45 : FnOk l.prog w K mg base (L2.CX l.prog w) _ _ _ _ (spOf ⟨l.prog, w, K⟩ (xmOf K) _ f_Board___init__) := ok_Board___init__ F45 T Bc D33 G33
  have G46 : FnOk l.prog w K mg base (L2.CX l.prog w) _ _ _ _ (spOf ⟨l.prog, w, K⟩ (xmOf K) _ f_Board_point) := ok_Board_point F46 T Bc D25 G25 D37 G37
  have G47 : FnOk l.prog w K mg base (L2.CX l.prog w) _ _ _ _ (spOf ⟨l.prog, w, K⟩ (xmOf K) _ f_Board_undo) := ok_Board_undo F47 T Bc E5 D36 G36
  have G48 : FnOk l.prog w K mg base (L2.CX l.prog w) _ _ _ _ (spOf ⟨l.prog, w, K⟩ (xmOf K) _ f_chance) := ok_chance F48 T D33 G33 D8 G8 D38 G38 D22 G22
  have G49 : FnOk l.prog w K mg base (L2.CX l.prog w) _ _ _ _ (spOf ⟨l.prog, w, K⟩ (xmOf K) _ f_expectation) := ok_expectation F49 T D33 G33 D8 G8 D19 G19 D38 G38 D22 G22
  have G50 : FnOk l.prog w K mg base (L2.CX l.prog w) _ _ _ _ (spOf ⟨l.prog, w, K⟩ (xmOf K) _ f_format_form) := ok_format_form F50 T D33 G33 D10 G10
  have G51 : FnOk l.prog w K mg base (L2.CX l.prog w) _ _ _ _ (spOf ⟨l.prog, w, K⟩ (xmOf K) _ f_parting) := ok_parting F51 T D33 G33 D3 G3 D17 G17 D5 G5 D12 G12
  have G52 : FnOk l.prog w K mg base (L2.CX l.prog w) _ _ _ _ (spOf ⟨l.prog, w, K⟩ (xmOf K) _ f_winner) := ok_winner F52 T D27 G27 D40 G40
  have G53 : FnOk l.prog w K mg base (L2.CX l.prog w) _ _ _ _ (spOf ⟨l.prog, w, K⟩ (xmOf K) _ f_counted) := ok_counted F53 T D27 G27 D40 G40
  have G54 : FnOk l.prog w K mg base (L2.CX l.prog w) _ _ _ _ (spOf ⟨l.prog, w, K⟩ (xmOf K) _ f_score) := ok_score F54 T D27 G27 D40 G40
  have G55 : FnOk l.prog w K mg base (L2.CX l.prog w) _ _ _ _ (spOf ⟨l.prog, w, K⟩ (xmOf K) _ f_needs) := ok_needs F55 T D25 G25 D27 G27 D40 G40 D28 G28
  have G56 : FnOk l.prog w K mg base (L2.CX l.prog w) _ _ _ _ (spOf ⟨l.prog, w, K⟩ (xmOf K) _ f_least) := ok_least F56 T D25 G25 D17 G17 D27 G27 D40 G40 D5 G5 D29 G29
  have G57 : FnOk l.prog w K mg base (L2.CX l.prog w) _ _ _ _ (spOf ⟨l.prog, w, K⟩ (xmOf K) _ f_match_points) := ok_match_points F57 T D27 G27 D40 G40 D28 G28
  have G58 : FnOk l.prog w K mg base (L2.CX l.prog w) _ _ _ _ (spOf ⟨l.prog, w, K⟩ (xmOf K) _ f_Board_copy) := ok_Board_copy F58 T Bc D45 G45
  have G59 : FnOk l.prog w K mg base (L2.CX l.prog w) _ _ _ _ (spOf ⟨l.prog, w, K⟩ (xmOf K) _ f__law_refused) := ok__law_refused F59 T Bc E5 E6 h55 h65 h66 D39 G39 D45 G45 D47 G47
  have G60 : FnOk l.prog w K mg base (L2.CX l.prog w) _ _ _ _ (spOf ⟨l.prog, w, K⟩ (xmOf K) _ f__law_boards) := ok__law_boards F60 T Bc D45 G45 D46 G46 D36 G36 D37 G37 D58 G58 D7 G7
  have G61 : FnOk l.prog w K mg base (L2.CX l.prog w) _ _ _ _ (spOf ⟨l.prog, w, K⟩ (xmOf K) _ f_law) := ok_law F61 T D24 G24 D52 G52 D53 G53 D54 G54 D55 G55 D56 G56 D57 G57 D41 G41 D42 G42 D43 G43 D44 G44 D48 G48 D49 G49 D50 G50 D39 G39 D51 G51 D13 G13 D59 G59 D60 G60 D14 G14
  exact G61
end
end Sf
end

section
set_option Elab.async false
set_option maxRecDepth 100000
open PySem PySem.W PyProof.Rows
set_option maxRecDepth 100000 in
set_option maxHeartbeats 0 in
theorem PySem.Challenge.cw_scoreforms_k19_whole_examples_holds : PySem.Challenge.rw_scoreforms_k19_whole_examples.Holds := by
  w_on; o_law; k_head; (case hw => w_witness2)
  k_fill
  refine Sf.law_end (l := PySem.Challenge.rw_scoreforms_k19_whole_examples) (F := Sf.f_law) (xm := Sf.xmOf) (k := 9) (x := "_law_script") rfl rfl ⟨rfl, by decide, by decide⟩ (fun w h Y => PySem.W.kIn_of Y) ?F Sf.law_true
  case F =>
    intro w mg fa h KX G hmg
    refine' Sf.all_mk KX G hmg ?aC ?pgC ?hdC ?poC ?saC ?mkC ?kcC ?nFC ?nPC ?a1 ?l1 ?c1 ?k1 ?a2 ?l2 ?c2 ?k2 ?a3 ?l3 ?c3 ?k3 ?a4 ?l4 ?c4 ?k4 ?a5 ?l5 ?c5 ?k5 ?a6 ?l6 ?c6 ?k6 ?a7 ?i7 ?l7 ?c7 ?k7 ?a8 ?l8 ?c8 ?k8 ?a9 ?l9 ?c9 ?k9 ?a10 ?l10 ?c10 ?k10 ?a11 ?l11 ?c11 ?k11 ?a12 ?l12 ?c12 ?k12 ?a13 ?l13 ?c13 ?k13 ?a14 ?l14 ?c14 ?k14 ?a15 ?l15 ?c15 ?k15 ?a16 ?l16 ?c16 ?k16 ?a17 ?l17 ?c17 ?k17 ?a18 ?l18 ?c18 ?k18 ?a19 ?l19 ?c19 ?k19 ?a20 ?l20 ?c20 ?k20 ?a21 ?l21 ?c21 ?k21 ?a22 ?l22 ?c22 ?k22 ?a23 ?l23 ?c23 ?k23 ?a24 ?l24 ?c24 ?k24 ?a25 ?l25 ?c25 ?k25 ?a26 ?l26 ?c26 ?k26 ?a27 ?l27 ?c27 ?k27 ?a28 ?l28 ?c28 ?k28 ?a29 ?l29 ?c29 ?k29 ?a30 ?l30 ?c30 ?k30 ?a31 ?l31 ?c31 ?k31 ?a32 ?l32 ?c32 ?k32 ?a33 ?l33 ?c33 ?k33 ?a34 ?l34 ?c34 ?k34 ?a35 ?l35 ?c35 ?k35 ?a36 ?i36 ?l36 ?c36 ?k36 ?a37 ?i37 ?l37 ?c37 ?k37 ?a38 ?l38 ?c38 ?k38 ?a39 ?l39 ?c39 ?k39 ?a40 ?l40 ?c40 ?k40 ?a41 ?l41 ?c41 ?k41 ?a42 ?l42 ?c42 ?k42 ?a43 ?l43 ?c43 ?k43 ?a44 ?l44 ?c44 ?k44 ?a45 ?i45 ?l45 ?c45 ?k45 ?a46 ?i46 ?l46 ?c46 ?k46 ?a47 ?i47 ?l47 ?c47 ?k47 ?a48 ?l48 ?c48 ?k48 ?a49 ?l49 ?c49 ?k49 ?a50 ?l50 ?c50 ?k50 ?a51 ?l51 ?c51 ?k51 ?a52 ?l52 ?c52 ?k52 ?a53 ?l53 ?c53 ?k53 ?a54 ?l54 ?c54 ?k54 ?a55 ?l55 ?c55 ?k55 ?a56 ?l56 ?c56 ?k56 ?a57 ?l57 ?c57 ?k57 ?a58 ?i58 ?l58 ?c58 ?k58 ?a59 ?l59 ?c59 ?k59 ?a60 ?l60 ?c60 ?k60 ?a61 ?l61 ?c61 ?k61 ?aX5 ?aX6 ?xX5 ?kX5 ?bX5 ?tX5 ?xX6 ?kX6 ?bX6 ?tX6 ?dX5 ?dX6 ?e5X5 ?e5X6 ?e6X6 ?z_abs ?z_all ?z_bool ?z_enumerate ?z_int ?z_isinstance ?z_len ?z_list ?z_max ?z_min ?z_range ?z_str ?z_sum ?z_tuple ?z_zip ?z_TARGET ?z_LEAD ?z_CAP ?z_LEVELS ?z_POINTS ?z_DIGITS
    (case aC => k_is)
    (case pgC => k_is)
    (case hdC => k_is)
    (case poC => k_is)
    (case saC => k_is)
    (case mkC => k_is)
    (case kcC => k_is)
    (case nFC => k_is)
    (case nPC => k_is)
    (case a1 => k_is)
    (case l1 => k_is)
    (case c1 => k_is)
    (case k1 => k_is)
    (case a2 => k_is)
    (case l2 => k_is)
    (case c2 => k_is)
    (case k2 => k_is)
    (case a3 => k_is)
    (case l3 => k_is)
    (case c3 => k_is)
    (case k3 => k_is)
    (case a4 => k_is)
    (case l4 => k_is)
    (case c4 => k_is)
    (case k4 => k_is)
    (case a5 => k_is)
    (case l5 => k_is)
    (case c5 => k_is)
    (case k5 => k_is)
    (case a6 => k_is)
    (case l6 => k_is)
    (case c6 => k_is)
    (case k6 => k_is)
    (case a7 => k_is)
    (case i7 => k_is)
    (case l7 => k_is)
    (case c7 => k_is)
    (case k7 => k_is)
    (case a8 => k_is)
    (case l8 => k_is)
    (case c8 => k_is)
    (case k8 => k_is)
    (case a9 => k_is)
    (case l9 => k_is)
    (case c9 => k_is)
    (case k9 => k_is)
    (case a10 => k_is)
    (case l10 => k_is)
    (case c10 => k_is)
    (case k10 => k_is)
    (case a11 => k_is)
    (case l11 => k_is)
    (case c11 => k_is)
    (case k11 => k_is)
    (case a12 => k_is)
    (case l12 => k_is)
    (case c12 => k_is)
    (case k12 => k_is)
    (case a13 => k_is)
    (case l13 => k_is)
    (case c13 => k_is)
    (case k13 => k_is)
    (case a14 => k_is)
    (case l14 => k_is)
    (case c14 => k_is)
    (case k14 => k_is)
    (case a15 => k_is)
    (case l15 => k_is)
    (case c15 => k_is)
    (case k15 => k_is)
    (case a16 => k_is)
    (case l16 => k_is)
    (case c16 => k_is)
    (case k16 => k_is)
    (case a17 => k_is)
    (case l17 => k_is)
    (case c17 => k_is)
    (case k17 => k_is)
    (case a18 => k_is)
    (case l18 => k_is)
    (case c18 => k_is)
    (case k18 => k_is)
    (case a19 => k_is)
    (case l19 => k_is)
    (case c19 => k_is)
    (case k19 => k_is)
    (case a20 => k_is)
    (case l20 => k_is)
    (case c20 => k_is)
    (case k20 => k_is)
    (case a21 => k_is)
    (case l21 => k_is)
    (case c21 => k_is)
    (case k21 => k_is)
    (case a22 => k_is)
    (case l22 => k_is)
    (case c22 => k_is)
    (case k22 => k_is)
    (case a23 => k_is)
    (case l23 => k_is)
    (case c23 => k_is)
    (case k23 => k_is)
    (case a24 => k_is)
    (case l24 => k_is)
    (case c24 => k_is)
    (case k24 => k_is)
    (case a25 => k_is)
    (case l25 => k_is)
    (case c25 => k_is)
    (case k25 => k_is)
    (case a26 => k_is)
    (case l26 => k_is)
    (case c26 => k_is)
    (case k26 => k_is)
    (case a27 => k_is)
    (case l27 => k_is)
    (case c27 => k_is)
    (case k27 => k_is)
    (case a28 => k_is)
    (case l28 => k_is)
    (case c28 => k_is)
    (case k28 => k_is)
    (case a29 => k_is)
    (case l29 => k_is)
    (case c29 => k_is)
    (case k29 => k_is)
    (case a30 => k_is)
    (case l30 => k_is)
    (case c30 => k_is)
    (case k30 => k_is)
    (case a31 => k_is)
    (case l31 => k_is)
    (case c31 => k_is)
    (case k31 => k_is)
    (case a32 => k_is)
    (case l32 => k_is)
    (case c32 => k_is)
    (case k32 => k_is)
    (case a33 => k_is)
    (case l33 => k_is)
    (case c33 => k_is)
    (case k33 => k_is)
    (case a34 => k_is)
    (case l34 => k_is)
    (case c34 => k_is)
    (case k34 => k_is)
    (case a35 => k_is)
    (case l35 => k_is)
    (case c35 => k_is)
    (case k35 => k_is)
    (case a36 => k_is)
    (case i36 => k_is)
    (case l36 => k_is)
    (case c36 => k_is)
    (case k36 => k_is)
    (case a37 => k_is)
    (case i37 => k_is)
    (case l37 => k_is)
    (case c37 => k_is)
    (case k37 => k_is)
    (case a38 => k_is)
    (case l38 => k_is)
    (case c38 => k_is)
    (case k38 => k_is)
    (case a39 => k_is)
    (case l39 => k_is)
    (case c39 => k_is)
    (case k39 => k_is)
    (case a40 => k_is)
    (case l40 => k_is)
    (case c40 => k_is)
    (case k40 => k_is)
    (case a41 => k_is)
    (case l41 => k_is)
    (case c41 => k_is)
    (case k41 => k_is)
    (case a42 => k_is)
    (case l42 => k_is)
    (case c42 => k_is)
    (case k42 => k_is)
    (case a43 => k_is)
    (case l43 => k_is)
    (case c43 => k_is)
    (case k43 => k_is)
    (case a44 => k_is)
    (case l44 => k_is)
    (case c44 => k_is)
    (case k44 => k_is)
    (case a45 => k_is)
    (case i45 => k_is)
    (case l45 => k_is)
    (case c45 => k_is)
    (case k45 => k_is)
    (case a46 => k_is)
    (case i46 => k_is)
    (case l46 => k_is)
    (case c46 => k_is)
    (case k46 => k_is)
    (case a47 => k_is)
    (case i47 => k_is)
    (case l47 => k_is)
    (case c47 => k_is)
    (case k47 => k_is)
    (case a48 => k_is)
    (case l48 => k_is)
    (case c48 => k_is)
    (case k48 => k_is)
    (case a49 => k_is)
    (case l49 => k_is)
    (case c49 => k_is)
    (case k49 => k_is)
    (case a50 => k_is)
    (case l50 => k_is)
    (case c50 => k_is)
    (case k50 => k_is)
    (case a51 => k_is)
    (case l51 => k_is)
    (case c51 => k_is)
    (case k51 => k_is)
    (case a52 => k_is)
    (case l52 => k_is)
    (case c52 => k_is)
    (case k52 => k_is)
    (case a53 => k_is)
    (case l53 => k_is)
    (case c53 => k_is)
    (case k53 => k_is)
    (case a54 => k_is)
    (case l54 => k_is)
    (case c54 => k_is)
    (case k54 => k_is)
    (case a55 => k_is)
    (case l55 => k_is)
    (case c55 => k_is)
    (case k55 => k_is)
    (case a56 => k_is)
    (case l56 => k_is)
    (case c56 => k_is)
    (case k56 => k_is)
    (case a57 => k_is)
    (case l57 => k_is)
    (case c57 => k_is)
    (case k57 => k_is)
    (case a58 => k_is)
    (case i58 => k_is)
    (case l58 => k_is)
    (case c58 => k_is)
    (case k58 => k_is)
    (case a59 => k_is)
    (case l59 => k_is)
    (case c59 => k_is)
    (case k59 => k_is)
    (case a60 => k_is)
    (case l60 => k_is)
    (case c60 => k_is)
    (case k60 => k_is)
    (case a61 => k_is)
    (case l61 => k_is)
    (case c61 => k_is)
    (case k61 => k_is)
    (case aX5 => k_is)
    (case aX6 => k_is)
    (case xX5 => k_exc)
    (case kX5 => k_is)
    (case bX5 => k_is)
    (case tX5 => k_is)
    (case xX6 => k_exc)
    (case kX6 => k_is)
    (case bX6 => k_is)
    (case tX6 => k_is)
    (case dX5 => k_is)
    (case dX6 => k_is)
    (case e5X5 => k_is)
    (case e5X6 => k_is)
    (case e6X6 => k_is)
    (case z_abs => k_is)
    (case z_all => k_is)
    (case z_bool => k_is)
    (case z_enumerate => k_is)
    (case z_int => k_is)
    (case z_isinstance => k_is)
    (case z_len => k_is)
    (case z_list => k_is)
    (case z_max => k_is)
    (case z_min => k_is)
    (case z_range => k_is)
    (case z_str => k_is)
    (case z_sum => k_is)
    (case z_tuple => k_is)
    (case z_zip => k_is)
    (case z_TARGET => k_is)
    (case z_LEAD => k_is)
    (case z_CAP => k_is)
    (case z_LEVELS => k_is)
    (case z_POINTS => k_is)
    (case z_DIGITS => k_is)
end
