import PyProof.Rows.All
import Wide.All
import OpenK.AllK
import Wide.FinOn
import HandS.ForMost
import HandS.ForExc
import HandS.Style
import HandS.Wide
import HandS.TupAny
import HandS.TupMul
import HandS.Zip
import KE.KDictKeyed
import KE.KDictDisplayH
import HandS.IsInst
import HandS.SetFor
import KE.DataMinMax
import KE.KTupSum
import KE.GoesMore
import HandS.SortInts
import HandS.DictEq
import PyProof.Rows.RowBridgeK
import KE.KRevSl
import PyProof.P3Eq
import PySem.Challenge.RW_scoreforms_k14_whole_same_forms
section
set_option Elab.async false
set_option maxRecDepth 100000
set_option linter.all false
/-! Sf1: data trees D, the store, what they stand for in the abstract heap; outcomes; expressions as functions. -/
namespace Sf
open PySem PySem.Spec PyProof.Rows L2

/-- values as trees; a mutable object by its place in the store -/
inductive D where
  | und | non | bl (b : Bool) | int (i : Int) | str (x : Str) | tup (l : List D) | lst (l : List D) | scr (l : List D) | loc (n : Nat) | glob (v : V)

/-- what stands at a place of the store -/
inductive Ob where
  | lst (l : List D)
  | dct (lk : Bool) (kvs : List (D × D))
  | dki (lk : Bool) (kvs : List (Int × D))
  | ins (fs : List (Str × D))
abbrev Sto := List Ob
abbrev En := List D

inductive Out (α : Type) where
  | ok (a : α) (S : Sto)
  | exc (c : Nat) (S : Sto)
  | bad

def fit (n : Nat) : Bool := Nat.ble n 16777216
theorem fit_le {n : Nat} (h : fit n = true) : n ≤ sizeLine := by rw [sizeLine_eq]; exact Nat.le_of_ble_eq_true h
def fitS (n : Nat) : Bool := Nat.blt n 16777216
theorem fitS_lt {n : Nat} (h : fitS n = true) : n < sizeLine := by
  rw [sizeLine_eq]
  have := Nat.le_of_ble_eq_true (show Nat.ble (n + 1) 16777216 = true from h)
  omega

section
variable (K : PySem.W.Frag)
/-- an object of the written part -/
def WtL (a : Addr) (xs : List V) : Prop := ∃ (o : Obj) (its : Array Value) (n : Nat), K.lookup a = some o ∧ o.cls = .type "list" ∧ o.dict = none ∧ o.data = .seq its n ∧ its.size ≤ sizeLine ∧ Vals xs its.toList
variable (B : List Addr)
def TupAt (ρ : List Addr) (H : Hp) (a : Addr) (vs : List V) : Prop := a ∉ B ∧ a ∉ ρ ∧ H a = some (.tup vs)
def ScrAt (ρ : List Addr) (H : Hp) (a : Addr) (vs : List V) : Prop := (a ∉ B ∧ a ∉ ρ ∧ Rd H a (.lst vs)) ∨ WtL K a vs
mutual
/-- the value v stands for the tree d. B, ρ: the addresses of what may change -/
inductive RV (ρ : List Addr) (H : Hp) : D → V → Prop
  | non : RV ρ H .non .non
  | bl (b : Bool) : RV ρ H (.bl b) (.bl b)
  | int (i : Int) : RV ρ H (.int i) (.int i)
  | str (x : Str) : RV ρ H (.str x) (.str x)
  | tup {a vs ds} : TupAt B ρ H a vs → RVs ρ H ds vs → RV ρ H (.tup ds) (.ref a)
  | lst {a vs ds} : a ∉ B → a ∉ ρ → H a = some (.lst vs) → RVs ρ H ds vs → RV ρ H (.lst ds) (.ref a)
  | scr {a vs ds} : ScrAt K B ρ H a vs → RVs ρ H ds vs → RV ρ H (.scr ds) (.ref a)
  | loc {n a} : ρ[n]? = some a → RV ρ H (.loc n) (.ref a)
  | glob {v : V} : v ≠ .non → RV ρ H (.glob v) v
inductive RVs (ρ : List Addr) (H : Hp) : List D → List V → Prop
  | nil : RVs ρ H [] []
  | cons {d v ds vs} : RV ρ H d v → RVs ρ H ds vs → RVs ρ H (d :: ds) (v :: vs)
end
end

section
variable {K : PySem.W.Frag} {B ρ : List Addr} {H : Hp} {ds es : List D} {vs ws : List V}
theorem RVs.length : ∀ {ds : List D} {vs : List V}, RVs K B ρ H ds vs → ds.length = vs.length
  | _, _, .nil => rfl
  | _, _, .cons _ r => by rw [List.length_cons, List.length_cons, RVs.length r]
theorem RVs.get : ∀ {ds : List D} {vs : List V} {i : Nat} {d : D}, RVs K B ρ H ds vs → ds[i]? = some d → ∃ v, vs[i]? = some v ∧ RV K B ρ H d v
  | _, _, _, _, .nil, e => by simp at e
  | _, _, 0, _, .cons r _, e => by simp at e; subst e; exact ⟨_, rfl, r⟩
  | _, _, i + 1, d, .cons _ t, e => by
    obtain ⟨v, h1, h2⟩ := RVs.get (i := i) (d := d) t (by simpa using e)
    exact ⟨v, by simpa using h1, h2⟩
theorem RVs.get' : ∀ {ds : List D} {vs : List V} {i : Nat} {v : V}, RVs K B ρ H ds vs → vs[i]? = some v → ∃ d, ds[i]? = some d ∧ RV K B ρ H d v
  | _, _, _, _, .nil, e => by simp at e
  | _, _, 0, _, .cons r _, e => by simp at e; subst e; exact ⟨_, rfl, r⟩
  | _, _, i + 1, d, .cons _ t, e => by
    obtain ⟨v, h1, h2⟩ := RVs.get' (i := i) t (by simpa using e)
    exact ⟨v, by simpa using h1, h2⟩
theorem RVs.append : ∀ {ds es : List D} {vs ws : List V}, RVs K B ρ H ds vs → RVs K B ρ H es ws → RVs K B ρ H (ds ++ es) (vs ++ ws)
  | _, _, _, _, .nil, s => s
  | _, _, _, _, .cons r t, s => .cons r (RVs.append t s)
theorem RVs.set {d : D} {v : V} (r : RV K B ρ H d v) : ∀ {ds : List D} {vs : List V} (i : Nat), RVs K B ρ H ds vs → RVs K B ρ H (ds.set i d) (vs.set i v)
  | _, _, _, .nil => .nil
  | _, _, 0, .cons _ t => .cons r t
  | _, _, i + 1, .cons q t => .cons q (RVs.set r i t)
theorem RVs.take : ∀ {ds : List D} {vs : List V} (n : Nat), RVs K B ρ H ds vs → RVs K B ρ H (ds.take n) (vs.take n)
  | _, _, 0, _ => .nil
  | _, _, _ + 1, .nil => .nil
  | _, _, n + 1, .cons r t => .cons r (RVs.take n t)
theorem RVs.drop : ∀ {ds : List D} {vs : List V} (n : Nat), RVs K B ρ H ds vs → RVs K B ρ H (ds.drop n) (vs.drop n)
  | _, _, 0, r => r
  | _, _, _ + 1, .nil => .nil
  | _, _, n + 1, .cons _ t => RVs.drop n t
theorem RVs.reverse (h : RVs K B ρ H ds vs) : RVs K B ρ H ds.reverse vs.reverse := by
  induction ds generalizing vs with
  | nil => cases h; exact .nil
  | cons d ds ih => cases h with | cons r t => rw [List.reverse_cons, List.reverse_cons]; exact (ih t).append (.cons r .nil)
theorem RVs.dropLast (h : RVs K B ρ H ds vs) : RVs K B ρ H ds.dropLast vs.dropLast := by
  rw [List.dropLast_eq_take, List.dropLast_eq_take, ← h.length]; exact h.take _
theorem RVs.rep (h : RVs K B ρ H ds vs) : ∀ k : Nat, RVs K B ρ H (List.replicate k ds).flatten (List.replicate k vs).flatten
  | 0 => .nil
  | k + 1 => by rw [List.replicate_succ, List.replicate_succ, List.flatten_cons, List.flatten_cons]; exact h.append (h.rep k)
theorem TupAt.sq {a : Addr} (h : TupAt B ρ H a vs) : SqT K H a vs := .inl (.inl h.2.2)
theorem ScrAt.sq {a : Addr} (h : ScrAt K B ρ H a vs) : SqL K H a vs := h.elim (fun h => .inl h.2.2) .inr

/-- what changes: nothing that stands, but at ρ; new addresses are told -/
structure Post (L ρ : List Addr) (H : Hp) (ρ' : List Addr) (H' : Hp) : Prop where
  ext : ∀ a u, (a ∉ ρ ∨ a ∈ L) → H a = some u → H' a = some u
  pre : ∃ t, ρ' = ρ ++ t
  new : ∀ a, a ∈ ρ' → a ∈ ρ ∨ H a = none
theorem Post.refl {L : List Addr} : Post L ρ H ρ H := ⟨fun _ _ _ h => h, ⟨[], by simp⟩, fun _ h => .inl h⟩
theorem Post.trans {L ρ1 ρ2 : List Addr} {H1 H2 : Hp} (a : Post L ρ H ρ1 H1) (b : Post L ρ1 H1 ρ2 H2) : Post L ρ H ρ2 H2 where
  ext := fun p u hp h => b.ext p u (hp.imp (fun hp z => (a.new p z).elim hp fun z => by rw [h] at z; cases z) id) (a.ext p u hp h)
  pre := by
    obtain ⟨t, e⟩ := a.pre
    obtain ⟨s, e'⟩ := b.pre
    exact ⟨t ++ s, by rw [e', e, List.append_assoc]⟩
  new := fun p hp => (b.new p hp).elim (a.new p) fun z => by
    by_cases q : p ∈ ρ
    · exact .inl q
    · cases e : H p with
      | none => exact .inr rfl
      | some u => rw [a.ext p u (.inl q) e] at z; cases z
theorem Post.rd {L ρ' : List Addr} {H' : Hp} (p : Post L ρ H ρ' H') {a : Addr} {u : HO} (h : a ∉ ρ) (r : Rd H a u) : Rd H' a u :=
  r.elim (fun r => .inl (p.ext a _ (.inl h) r)) fun ⟨o, r⟩ => .inr ⟨o, p.ext a _ (.inl h) r⟩
theorem Post.out {L ρ' : List Addr} {H' : Hp} (p : Post L ρ H ρ' H') {a : Addr} {u : HO} (h : a ∉ ρ) (r : H a = some u) : a ∉ ρ' := fun z => (p.new a z).elim h fun z => by rw [r] at z; cases z
theorem Post.outR {L ρ' : List Addr} {H' : Hp} (p : Post L ρ H ρ' H') {a : Addr} {u : HO} (h : a ∉ ρ) (r : Rd H a u) : a ∉ ρ' := r.elim (p.out h) fun ⟨_, r⟩ => p.out h r
theorem Post.at {L ρ' : List Addr} {H' : Hp} (p : Post L ρ H ρ' H') {n : Nat} {a : Addr} (h : ρ[n]? = some a) : ρ'[n]? = some a := by
  obtain ⟨t, rfl⟩ := p.pre
  rw [List.getElem?_append_left (List.getElem?_eq_some_iff.mp h).1]; exact h
mutual
theorem RV.mono {L ρ' : List Addr} {H' : Hp} (p : Post L ρ H ρ' H') : ∀ (d : D) (v : V), RV K B ρ H d v → RV K B ρ' H' d v
  | .und, _, h => nomatch h
  | .non, _, .non => .non
  | .bl _, _, .bl _ => .bl _
  | .int _, _, .int _ => .int _
  | .str _, _, .str _ => .str _
  | .tup ds, _, .tup h r => .tup ⟨h.1, p.out h.2.1 h.2.2, p.ext _ _ (.inl h.2.1) h.2.2⟩ (RVs.mono p ds _ r)
  | .lst ds, _, .lst h1 h2 h r => .lst h1 (p.out h2 h) (p.ext _ _ (.inl h2) h) (RVs.mono p ds _ r)
  | .scr ds, _, .scr h r => .scr (h.imp (fun h => ⟨h.1, p.outR h.2.1 h.2.2, p.rd h.2.1 h.2.2⟩) id) (RVs.mono p ds _ r)
  | .loc _, _, .loc h => .loc (p.at h)
  | .glob _, _, .glob h => .glob h
theorem RVs.mono {L ρ' : List Addr} {H' : Hp} (p : Post L ρ H ρ' H') : ∀ (ds : List D) (vs : List V), RVs K B ρ H ds vs → RVs K B ρ' H' ds vs
  | [], _, .nil => .nil
  | d :: ds, _, .cons h r => .cons (RV.mono p d _ h) (RVs.mono p ds _ r)
end
end

/-- the environment: a slot that holds a tree holds its value -/
structure RE (K : PySem.W.Frag) (B ρ : List Addr) (H : Hp) (env : En) (σ : L2.St) : Prop where
  len : env.length = σ.length
  at' : ∀ (i : Nat) (d : D), env[i]? = some d → d = .und ∨ ∃ v, σ[i]? = some (some v) ∧ RV K B ρ H d v
theorem RE.mono {K : PySem.W.Frag} {B L ρ ρ' : List Addr} {H H' : Hp} {env : En} {σ : L2.St} (h : RE K B ρ H env σ) (p : Post L ρ H ρ' H') : RE K B ρ' H' env σ :=
  ⟨h.len, fun i d e => (h.at' i d e).imp id fun ⟨v, e1, r⟩ => ⟨v, e1, r.mono p⟩⟩
theorem RE.set {K : PySem.W.Frag} {B ρ : List Addr} {H : Hp} {env : En} {σ : L2.St} {d : D} {v : V} (h : RE K B ρ H env σ) (i : Nat) (r : RV K B ρ H d v) : RE K B ρ H (env.set i d) (σ.set i (some v)) :=
  ⟨by simp [h.len], fun j e q => by
    by_cases hj : i = j
    · subst hj
      rw [List.getElem?_set] at q
      split at q
      · split at q
        · cases q
          refine .inr ⟨v, ?_, r⟩
          rw [List.getElem?_set_self (by rw [← h.len]; assumption)]
        · cases q
      · exact absurd rfl ‹_›
    · rw [List.getElem?_set_ne hj] at q
      rw [List.getElem?_set_ne hj]
      exact h.at' j e q⟩
def undE : En → List Nat → En
  | e, [] => e
  | e, v :: vs => (undE e vs).set v .und
theorem undE_length (e : En) : ∀ vs : List Nat, (undE e vs).length = e.length
  | [] => rfl
  | v :: vs => by unfold undE; rw [List.length_set, undE_length e vs]
theorem RE.wipe {K : PySem.W.Frag} {B ρ : List Addr} {H : Hp} {env : En} {σ : L2.St} (h : RE K B ρ H env σ) : ∀ vs : List Nat, RE K B ρ H (undE env vs) (wipe σ vs)
  | [] => h
  | v :: vs => by
    have ih := h.wipe vs
    refine ⟨by unfold undE L2.wipe; simp [ih.len], fun j e q => ?_⟩
    unfold undE at q
    unfold L2.wipe
    by_cases hj : v = j
    · subst hj
      rw [List.getElem?_set] at q
      split at q
      · split at q
        · cases q; exact .inl rfl
        · cases q
      · exact absurd rfl ‹_›
    · rw [List.getElem?_set_ne hj] at q
      rw [List.getElem?_set_ne hj]
      exact ih.at' j e q

/-- a dict whose keys are tuples: its object alone. ents: the key, its tuple's address, the value -/
def DctRaw (P : Program) (w : World) (a : Addr) (ents : List (NestedKey × Addr × V)) (h : Heap) : Prop :=
  ents.length ≤ sizeLine ∧ (a == sysModules) = false ∧ (ents.map (·.1)).Nodup ∧ ∃ xs : List (NestedKey × Addr × Value), Paired (fun (p : NestedKey × Addr × V) (q : NestedKey × Addr × Value) => p.1 = q.1 ∧ p.2.1 = q.2.1 ∧ RelV p.2.2 q.2.2) ents xs ∧
    ∃ o es ep, h.get? a = some o ∧ o.ExactDict ∧ o.data = .dict es ep ∧ es.toList = xs.map (entryOfKey (nestedKind P w))
def dx (P : Program) (w : World) (a : Addr) (ents : List (NestedKey × Addr × V)) : HO := .ext (DctRaw P w a ents)
mutual
def D.key : D → Option NestedKey
  | .non => some .none
  | .int i => some (.num i)
  | .tup ks => (D.keys ks).map .tup
  | _ => none
def D.keys : List D → Option (List NestedKey)
  | [] => some []
  | d :: ds => match D.key d, D.keys ds with
    | some k, some ks => some (k :: ks)
    | _, _ => none
end
structure Pg where
  P : Program
  w : World
  K : PySem.W.Frag
section
variable (G : Sf.Pg) (B L ρ : List Addr) (H : Hp)
inductive RKs : List (D × D) → List (NestedKey × Addr × V) → Prop
  | nil : RKs [] []
  | cons {k d nk ka v kvs ents} : D.key k = some nk → RV G.K B ρ H k (.ref ka) → nk.depth ≤ 8 → RV G.K B ρ H d v → RKs kvs ents → RKs ((k, d) :: kvs) ((nk, ka, v) :: ents)
inductive RIs : List (Int × D) → List (Key × V) → Prop
  | nil : RIs [] []
  | cons {i d v kvs ents} : RV G.K B ρ H d v → RIs kvs ents → RIs ((i, d) :: kvs) ((Sum.inl i, v) :: ents)
inductive RFs : List (Str × D) → List (Str × V) → Prop
  | nil : RFs [] []
  | cons {f d v fs ents} : RV G.K B ρ H d v → RFs fs ents → RFs ((f, d) :: fs) ((f, v) :: ents)
def LkAt (lk : Bool) (a : Addr) (u : HO) : Prop := if lk = true then a ∈ L ∧ ∃ od, H a = some (.frz od u) else H a = some u
/-- the class of the objects -/
def BdIn (K : PySem.W.Frag) (C : Addr) : Prop := PySem.W.nsIn K mainGlobals "Board" = some (some (.ref C))
/-- what stands at a for an object of the store -/
def RO (a : Addr) : Ob → Prop
  | .lst ds => ∃ vs, H a = some (.lst vs) ∧ RVs G.K B ρ H ds vs
  | .dct lk kvs => ∃ ents, LkAt L H lk a (dx G.P G.w a ents) ∧ RKs G B ρ H kvs ents
  | .dki lk kvs => ∃ ents, LkAt L H lk a (.dK ents) ∧ RIs G B ρ H kvs ents
  | .ins fs => ∃ C dx ents, BdIn G.K C ∧ H a = some (.ins C dx ents) ∧ RFs G B ρ H fs ents
/-- the store as it stands -/
structure RH (S : Sto) : Prop where
  len : ρ.length = S.length
  nd : ρ.Nodup
  dj : ∀ a, a ∈ ρ → a ∉ B
  avo : ∀ b, b ∈ B → ∃ u, H b = some u
  lk : ∀ a, a ∈ L → ∃ o u, H a = some (.frz o u)
  ob : ∀ (n : Nat) (a : Addr) (o : Ob), ρ[n]? = some a → S[n]? = some o → RO G B L ρ H a o
end
section
variable {G : Pg} {B L ρ ρ' : List Addr} {H H' : Hp} {S : Sto}
theorem RKs.mono (p : Post L ρ H ρ' H') : ∀ {kvs ents}, RKs G B ρ H kvs ents → RKs G B ρ' H' kvs ents
  | _, _, .nil => .nil
  | _, _, .cons h1 h2 h3 h4 r => .cons h1 (h2.mono p) h3 (h4.mono p) (r.mono p)
theorem RIs.mono (p : Post L ρ H ρ' H') : ∀ {kvs ents}, RIs G B ρ H kvs ents → RIs G B ρ' H' kvs ents
  | _, _, .nil => .nil
  | _, _, .cons h1 r => .cons (h1.mono p) (r.mono p)
theorem RFs.mono (p : Post L ρ H ρ' H') : ∀ {kvs ents}, RFs G B ρ H kvs ents → RFs G B ρ' H' kvs ents
  | _, _, .nil => .nil
  | _, _, .cons h1 r => .cons (h1.mono p) (r.mono p)
theorem RH.there (R : RH G B L ρ H S) {n : Nat} {a : Addr} (h : ρ[n]? = some a) : ∃ u, H a = some u := by
  have hn : n < S.length := by rw [← R.len]; exact (List.getElem?_eq_some_iff.mp h).1
  have q := R.ob n a _ h (List.getElem?_eq_getElem hn)
  cases e : S[n] with
  | lst ds => rw [e] at q; obtain ⟨vs, q, _⟩ := q; exact ⟨_, q⟩
  | dct lk kvs =>
    rw [e] at q; obtain ⟨vs, q, _⟩ := q
    cases lk with
    | true => obtain ⟨_, _, q⟩ := q; exact ⟨_, q⟩
    | false => exact ⟨_, q⟩
  | dki lk kvs =>
    rw [e] at q; obtain ⟨vs, q, _⟩ := q
    cases lk with
    | true => obtain ⟨_, _, q⟩ := q; exact ⟨_, q⟩
    | false => exact ⟨_, q⟩
  | ins fs => rw [e] at q; obtain ⟨_, _, _, _, q, _⟩ := q; exact ⟨_, q⟩
theorem RH.someM (R : RH G B L ρ H S) {a : Addr} (h : a ∈ ρ) : ∃ u, H a = some u := by
  obtain ⟨n, h⟩ := List.mem_iff_getElem?.mp h
  exact R.there h
theorem RH.fresh (R : RH G B L ρ H S) {p : Addr} (h : H p = none) : p ∉ ρ ∧ p ∉ B :=
  ⟨fun z => (by obtain ⟨u, e⟩ := R.someM z; rw [h] at e; cases e), fun z => (by obtain ⟨u, e⟩ := R.avo _ z; rw [h] at e; cases e)⟩
/-- the same objects behind a step that writes none of them -/
theorem RO.mono (p : Post L ρ H ρ' H') {a : Addr} {o : Ob} (k : H' a = H a) (h : RO G B L ρ H a o) : RO G B L ρ' H' a o := by
  cases o with
  | lst ds => obtain ⟨vs, e, r⟩ := h; exact ⟨vs, k.trans e, RVs.mono p _ _ r⟩
  | dct lk kvs => obtain ⟨ents, e, r⟩ := h; refine ⟨ents, ?_, r.mono p⟩; unfold LkAt at e ⊢; rw [k]; exact e
  | dki lk kvs => obtain ⟨ents, e, r⟩ := h; refine ⟨ents, ?_, r.mono p⟩; unfold LkAt at e ⊢; rw [k]; exact e
  | ins fs => obtain ⟨C, d, ents, hb, e, r⟩ := h; exact ⟨C, d, ents, hb, k.trans e, r.mono p⟩
/-- a new object that is not of the store -/
theorem Post.newV {p : Addr} {o : HO} (h : H p = none) : Post L ρ H ρ (upd H p o) :=
  ⟨fun a u _ e => by rw [upd_ne (ne_of_none e h)]; exact e, ⟨[], by simp⟩, fun _ h => .inl h⟩
theorem RH.newV (R : RH G B L ρ H S) {p : Addr} {o : HO} (h : H p = none) : RH G B L ρ (upd H p o) S where
  len := R.len
  nd := R.nd
  dj := R.dj
  avo := fun b hb => let ⟨u, e⟩ := R.avo b hb; ⟨u, by rw [upd_ne (ne_of_none e h)]; exact e⟩
  lk := fun b hb => let ⟨ob, u, e⟩ := R.lk b hb; ⟨ob, u, by rw [upd_ne (ne_of_none e h)]; exact e⟩
  ob := fun n a ob h1 h2 => by
    obtain ⟨u, e⟩ := R.there h1
    exact (R.ob n a ob h1 h2).mono (Post.newV h) (upd_ne (ne_of_none e h))
/-- a new object of the store -/
theorem Post.newL {p : Addr} {o : HO} (h : H p = none) : Post L ρ H (ρ ++ [p]) (upd H p o) :=
  ⟨fun a u _ e => by rw [upd_ne (ne_of_none e h)]; exact e, ⟨[p], rfl⟩, fun a z => (List.mem_append.mp z).imp id fun z => by simp at z; rw [z]; exact h⟩
theorem RH.newL (R : RH G B L ρ H S) {p : Addr} {o : HO} {ob : Ob} (h : H p = none) (q : RO G B L (ρ ++ [p]) (upd H p o) p ob) : RH G B L (ρ ++ [p]) (upd H p o) (S ++ [ob]) where
  len := by simp [R.len]
  nd := by
    rw [List.nodup_append]
    refine ⟨R.nd, by simp, fun a ha b hb => ?_⟩
    simp at hb; subst hb
    rintro rfl
    exact (R.fresh h).1 ha
  dj := fun a ha => (List.mem_append.mp ha).elim (R.dj a) fun z => by simp at z; rw [z]; exact (R.fresh h).2
  avo := fun b hb => let ⟨u, e⟩ := R.avo b hb; ⟨u, by rw [upd_ne (ne_of_none e h)]; exact e⟩
  lk := fun b hb => let ⟨ob, u, e⟩ := R.lk b hb; ⟨ob, u, by rw [upd_ne (ne_of_none e h)]; exact e⟩
  ob := fun n a ob' h1 h2 => by
    by_cases hn : n < ρ.length
    · rw [List.getElem?_append_left hn] at h1
      rw [List.getElem?_append_left (by rw [← R.len]; exact hn)] at h2
      obtain ⟨u, e⟩ := R.there h1
      exact (R.ob n a ob' h1 h2).mono (Post.newL h) (upd_ne (ne_of_none e h))
    · have hn' : n = ρ.length := by
        have := (List.getElem?_eq_some_iff.mp h1).1
        simp at this; omega
      subst hn'
      rw [List.getElem?_append_right (Nat.le_refl _)] at h1
      rw [R.len, List.getElem?_append_right (Nat.le_refl _)] at h2
      simp at h1 h2
      subst h1; subst h2
      exact q
/-- an object of the store is written -/
theorem Post.wr {n : Nat} {a : Addr} {o : HO} (h : ρ[n]? = some a) (hl : a ∉ L) : Post L ρ H ρ (upd H a o) :=
  ⟨fun b u hb e => by
    rw [upd_ne]
    · exact e
    · rintro rfl
      exact hb.elim (fun z => z (List.mem_of_getElem? h)) hl, ⟨[], by simp⟩, fun _ h => .inl h⟩
theorem RH.wr (R : RH G B L ρ H S) {n : Nat} {a : Addr} {o : HO} {ob : Ob} (h : ρ[n]? = some a) (hl : a ∉ L) (q : RO G B L ρ (upd H a o) a ob) : RH G B L ρ (upd H a o) (S.set n ob) where
  len := by simp [R.len]
  nd := R.nd
  dj := R.dj
  avo := fun b hb => let ⟨u, e⟩ := R.avo b hb; ⟨u, by
    rw [upd_ne]
    · exact e
    · rintro rfl; exact R.dj _ (List.mem_of_getElem? h) hb⟩
  lk := fun b hb => let ⟨ob, u, e⟩ := R.lk b hb; ⟨ob, u, by
    rw [upd_ne]
    · exact e
    · rintro rfl; exact hl hb⟩
  ob := fun m b ob' h1 h2 => by
    by_cases hm : n = m
    · subst hm
      rw [h] at h1; cases h1
      rw [List.getElem?_set_self (by rw [← R.len]; exact (List.getElem?_eq_some_iff.mp h).1)] at h2
      cases h2
      exact q
    · rw [List.getElem?_set_ne hm] at h2
      have hne : b ≠ a := fun e => hm (nodup_ix' R.nd h (e ▸ h1))
      exact (R.ob m b ob' h1 h2).mono (Post.wr h hl) (upd_ne hne)
where
  nodup_ix' {α : Type} {l : List α} (hN : l.Nodup) {i j : Nat} {x : α} (a : l[i]? = some x) (b : l[j]? = some x) : i = j := L2.nd_ix hN a b
theorem RH.notL (R : RH G B L ρ H S) {a : Addr} {u : HO} (h : H a = some u) (hu : ∀ o z, u ≠ .frz o z) : a ∉ L := fun z => by
  obtain ⟨o, w, e⟩ := R.lk a z
  rw [h] at e; cases e; exact hu _ _ rfl
end
end Sf
end

section
set_option Elab.async false
set_option maxRecDepth 100000
set_option linter.all false
/-! Sf2: judgements: an expression is worth a function of the environment and the store. -/
namespace Sf
open PySem PySem.Spec PyProof.Rows L2

abbrev XM := Nat → Value
/-- what is wanted behind an outcome -/
def GO {α β : Type} (G : Pg) (W : WX) (xm : XM) (B L ρ : List Addr) (H : Hp) (σ : L2.St) (rel : List Addr → Hp → α → β → Prop) (r : Out α) (Q : β → Hp → Prop) : Prop :=
  match r with
  | .ok d S' => ∀ v ρ' H', Post L ρ H ρ' H' → RH G B L ρ' H' S' → rel ρ' H' d v → Q v H'
  | .exc c S' => ∀ ρ' H', Post L ρ H ρ' H' → RH G B L ρ' H' S' → W (xm c) none σ H'
  | .bad => False
structure At (G : Pg) (B L ρ : List Addr) (S : Sto) (env : En) (σ : L2.St) (H : Hp) : Prop where
  rh : RH G B L ρ H S
  re : RE G.K B ρ H env σ
theorem At.step {G : Pg} {B L ρ ρ' : List Addr} {S S' : Sto} {env : En} {σ : L2.St} {H H' : Hp} (a : At G B L ρ S env σ H) (p : Post L ρ H ρ' H') (r : RH G B L ρ' H' S') : At G B L ρ' S' env σ H' := ⟨r, a.re.mono p⟩
section
variable {α β : Type} {G : Pg} {W : WX} {xm : XM} {B L ρ ρ' : List Addr} {H H' : Hp} {σ : L2.St} {rel : List Addr → Hp → α → β → Prop} {r : Out α} {Q : β → Hp → Prop}
theorem GO.step (g : GO G W xm B L ρ H σ rel r Q) (p : Post L ρ H ρ' H') : GO G W xm B L ρ' H' σ rel r Q := by
  cases r with
  | ok d S' => exact fun v ρ2 H2 q R x => g v ρ2 H2 (p.trans q) R x
  | exc c S' => exact fun ρ2 H2 q R => g ρ2 H2 (p.trans q) R
  | bad => exact g
end
abbrev rD (G : Pg) (B : List Addr) : List Addr → Hp → D → V → Prop := fun ρ H d v => RV G.K B ρ H d v
abbrev rB : List Addr → Hp → Bool → Bool → Prop := fun _ _ a b => a = b
abbrev rL (G : Pg) (B : List Addr) : List Addr → Hp → List D → List V → Prop := fun ρ H d v => RVs G.K B ρ H d v
abbrev FE := En → Sto → Out D
abbrev FT := En → Sto → Out Bool
abbrev FA := En → Sto → Out (List D)
section
variable (G : Pg) (W : WX) (xm : XM)
def tE (f : FE) : TE := fun σ H Q => ∃ B L ρ S env, At G B L ρ S env σ H ∧ GO G W xm B L ρ H σ (rD G B) (f env S) Q
def tT (f : FT) : TT := fun σ H Q => ∃ B L ρ S env, At G B L ρ S env σ H ∧ GO G W xm B L ρ H σ rB (f env S) Q
def tA (f : FA) : TA := fun σ H Q => ∃ B L ρ S env, At G B L ρ S env σ H ∧ GO G W xm B L ρ H σ (rL G B) (f env S) Q
end
theorem PE.imp {X : Cx} {e : Expr} {t t' : TE} (h : PE X e t) (i : ∀ σ H Q, t' σ H Q → t σ H Q) : PE X e t' := ⟨fun pins s σ H Q I q => h.run pins s σ H Q I (i σ H Q q)⟩
theorem PT.imp {X : Cx} {e : Expr} {t t' : TT} (h : PT X e t) (i : ∀ σ H Q, t' σ H Q → t σ H Q) : PT X e t' := ⟨fun pins s σ H Q I q => h.run pins s σ H Q I (i σ H Q q)⟩
theorem PW.imp {X : Cx} {e : Expr} {t t' : TT} (h : PW X e t) (i : ∀ σ H Q, t' σ H Q → t σ H Q) : PW X e t' := ⟨fun wh pins s σ H Q I q => h.run wh pins s σ H Q I (i σ H Q q)⟩
theorem PA.imp {X : Cx} {es : List Expr} {t t' : TA} (h : PA X es t) (i : ∀ σ H Q, t' σ H Q → t σ H Q) : PA X es t' := ⟨fun pos pins s σ H Q I q => h.run pos pins s σ H Q I (i σ H Q q)⟩
theorem PS.imp {X : Cx} {st : Stmt} {t t' : TS} (h : PS X st t) (i : ∀ D σ H, t' D σ H → t D σ H) : PS X st t' := ⟨fun pins s σ H D I q => h.run pins s σ H D I (i D σ H q)⟩
theorem PSs.imp {X : Cx} {st : List Stmt} {t t' : TS} (h : PSs X st t) (i : ∀ D σ H, t' D σ H → t D σ H) : PSs X st t' := ⟨fun pins s σ H D I q => h.run pins s σ H D I (i D σ H q)⟩

/-- the program's parts as X has them -/
abbrev pg (X : Cx) : Pg := ⟨X.prog, X.w, X.K⟩
/-- X, its wish W about exceptions, the exceptions' classes -/
structure Wx where
  W : WX
  xm : XM
abbrev SE (X : Cx) (w : Wx) (e : Expr) (f : FE) : Prop := PE X e (tE (pg X) w.W w.xm f)
abbrev ST (X : Cx) (w : Wx) (e : Expr) (f : FT) : Prop := PT X e (tT (pg X) w.W w.xm f)
abbrev SW (X : Cx) (w : Wx) (e : Expr) (f : FT) : Prop := PW X e (tT (pg X) w.W w.xm f)
abbrev SA (X : Cx) (w : Wx) (es : List Expr) (f : FA) : Prop := PA X es (tA (pg X) w.W w.xm f)

/-! ### functions -/
def Out.bind {α β : Type} (r : Out α) (k : α → Sto → Out β) : Out β := match r with
  | .ok a S => k a S
  | .exc c S => .exc c S
  | .bad => .bad
def fVar (i : Nat) : FE := fun env S => match env[i]? with
  | some d => match d with
    | .und => .bad
    | d => .ok d S
  | none => .bad
def fCon (d : D) : FE := fun _ S => .ok d S
/-- an operation by values: it raises nothing -/
abbrev Op1 := D → Sto → Option (D × Sto)
abbrev Op2 := D → D → Sto → Option (D × Sto)
abbrev OpN := List D → Sto → Option (D × Sto)
def outO {α : Type} : Option (α × Sto) → Out α
  | some (d, S) => .ok d S
  | none => .bad
def fOp1 (g : Op1) (a : FE) : FE := fun env S => (a env S).bind fun x S1 => outO (g x S1)
def fOp2 (g : Op2) (a b : FE) : FE := fun env S => (a env S).bind fun x S1 => (b env S1).bind fun y S2 => outO (g x y S2)
def fNil : FA := fun _ S => .ok [] S
def fCons (a : FE) (r : FA) : FA := fun env S => (a env S).bind fun x S1 => (r env S1).bind fun xs S2 => .ok (x :: xs) S2
def fOpN (g : OpN) (a : FA) : FE := fun env S => (a env S).bind fun xs S1 => outO (g xs S1)
/-- a value as a bool, as a test -/
def asB : D → Option Bool
  | .bl b => some b
  | _ => none
def tVal (a : FE) : FT := fun env S => (a env S).bind fun x S1 => match x with
  | .bl b => .ok b S1
  | _ => .bad
def tAnd (a b : FT) : FT := fun env S => (a env S).bind fun x S1 => bif x then b env S1 else .ok false S1
def tOr (a b : FT) : FT := fun env S => (a env S).bind fun x S1 => bif x then .ok true S1 else b env S1
def tNot (a : FT) : FT := fun env S => (a env S).bind fun x S1 => .ok (!x) S1
def fIf (c : FT) (a b : FE) : FE := fun env S => (c env S).bind fun x S1 => bif x then a env S1 else b env S1
def fAnd (a b : FE) : FE := fun env S => (a env S).bind fun x S1 => match x with
  | .bl c => bif c then b env S1 else .ok (.bl false) S1
  | _ => .bad
def fOr (a b : FE) : FE := fun env S => (a env S).bind fun x S1 => match x with
  | .bl c => bif c then .ok (.bl true) S1 else b env S1
  | _ => .bad
def fNot (a : FE) : FE := fun env S => (a env S).bind fun x S1 => match x with
  | .bl c => .ok (.bl (!c)) S1
  | _ => .bad

section
variable {X : Cx} {w : Wx} {G : Pg} {W : WX} {xm : XM} {e a b c : Expr} {es rest : List Expr} {f fa fb fc : FE} {ft ft' : FT} {fs : FA} {pos : Pos}
/-- the first part of a bind -/
theorem tE_bind {α β : Type} {rel : List Addr → List Addr → Hp → α → β → Prop} {B L ρ S env σ H} {k : D → Sto → Out α} {Q : β → Hp → Prop} (A : At G B L ρ S env σ H) (g : GO G W xm B L ρ H σ (rel B) ((f env S).bind k) Q) :
    tE G W xm f σ H fun x H1 => ∃ B L ρ S d, At G B L ρ S env σ H1 ∧ RV G.K B ρ H1 d x ∧ GO G W xm B L ρ H1 σ (rel B) (k d S) Q := by
  refine ⟨B, L, ρ, S, env, A, ?_⟩
  revert g
  cases f env S with
  | ok d S' => exact fun g v ρ' H' p R r => ⟨B, L, ρ', S', d, A.step p R, r, GO.step g p⟩
  | exc c S' => exact fun g => g
  | bad => exact fun g => g
theorem tT_bind {α β : Type} {rel : List Addr → List Addr → Hp → α → β → Prop} {B L ρ S env σ H} {k : Bool → Sto → Out α} {Q : β → Hp → Prop} (A : At G B L ρ S env σ H) (g : GO G W xm B L ρ H σ (rel B) ((ft env S).bind k) Q) :
    tT G W xm ft σ H fun x H1 => ∃ B L ρ S, At G B L ρ S env σ H1 ∧ GO G W xm B L ρ H1 σ (rel B) (k x S) Q := by
  refine ⟨B, L, ρ, S, env, A, ?_⟩
  revert g
  cases ft env S with
  | ok d S' => exact fun g v ρ' H' p R r => ⟨B, L, ρ', S', A.step p R, by cases r; exact GO.step g p⟩
  | exc c S' => exact fun g => g
  | bad => exact fun g => g
theorem tA_bind {α β : Type} {rel : List Addr → List Addr → Hp → α → β → Prop} {B L ρ S env σ H} {k : List D → Sto → Out α} {Q : β → Hp → Prop} (A : At G B L ρ S env σ H) (g : GO G W xm B L ρ H σ (rel B) ((fs env S).bind k) Q) :
    tA G W xm fs σ H fun x H1 => ∃ B L ρ S d, At G B L ρ S env σ H1 ∧ RVs G.K B ρ H1 d x ∧ GO G W xm B L ρ H1 σ (rel B) (k d S) Q := by
  refine ⟨B, L, ρ, S, env, A, ?_⟩
  revert g
  cases fs env S with
  | ok d S' => exact fun g v ρ' H' p R r => ⟨B, L, ρ', S', d, A.step p R, r, GO.step g p⟩
  | exc c S' => exact fun g => g
  | bad => exact fun g => g
theorem tE_bind2 {α β : Type} {rel : List Addr → List Addr → Hp → α → β → Prop} {B L ρ S env σ H} {k : D → D → Sto → Out α} {Q : β → Hp → Prop} (A : At G B L ρ S env σ H) (g : GO G W xm B L ρ H σ (rel B) ((fa env S).bind fun x S1 => (fb env S1).bind fun y S2 => k x y S2) Q) :
    tE G W xm fa σ H fun x H1 => tE G W xm fb σ H1 fun y H2 => ∃ B L ρ S d d', At G B L ρ S env σ H2 ∧ RV G.K B ρ H2 d x ∧ RV G.K B ρ H2 d' y ∧ GO G W xm B L ρ H2 σ (rel B) (k d d' S) Q := by
  refine ⟨B, L, ρ, S, env, A, ?_⟩
  revert g
  cases fa env S with
  | ok d S' =>
    intro g v ρ' H' p R r
    have g' := GO.step g p
    refine ⟨B, L, ρ', S', env, A.step p R, ?_⟩
    revert g'
    show GO G W xm B L ρ' H' σ (rel B) ((fb env S').bind fun y S2 => k d y S2) Q → _
    cases fb env S' with
    | ok d' S2 => exact fun g' v2 ρ2 H2 p2 R2 r2 => ⟨B, L, ρ2, S2, d, d', (A.step p R).step p2 R2, r.mono p2, r2, GO.step g' p2⟩
    | exc c S' => exact fun g => g
    | bad => exact fun g => g
  | exc c S' => exact fun g => g
  | bad => exact fun g => g

/-! ### what an operation's rule asks, answered by its function -/
abbrev Ok1 (G : Pg) (r : V → Hp → VK → Prop) (g : Op1) : Prop := ∀ (B L ρ : List Addr) (S S' : Sto) (H : Hp) (d d' : D) (x : V) (Q : VK), RH G B L ρ H S → RV G.K B ρ H d x → g d S = some (d', S') →
  (∀ v ρ' H', Post L ρ H ρ' H' → RH G B L ρ' H' S' → RV G.K B ρ' H' d' v → Q v H') → r x H Q
abbrev Ok2 (G : Pg) (r : R2) (g : Op2) : Prop := ∀ (B L ρ : List Addr) (S S' : Sto) (H : Hp) (d1 d2 d' : D) (x y : V) (Q : VK), RH G B L ρ H S → RV G.K B ρ H d1 x → RV G.K B ρ H d2 y → g d1 d2 S = some (d', S') →
  (∀ v ρ' H', Post L ρ H ρ' H' → RH G B L ρ' H' S' → RV G.K B ρ' H' d' v → Q v H') → r x y H Q
abbrev OkN (G : Pg) (r : List V → Hp → VK → Prop) (g : OpN) : Prop := ∀ (B L ρ : List Addr) (S S' : Sto) (H : Hp) (ds : List D) (d' : D) (xs : List V) (Q : VK), RH G B L ρ H S → RVs G.K B ρ H ds xs → g ds S = some (d', S') →
  (∀ v ρ' H', Post L ρ H ρ' H' → RH G B L ρ' H' S' → RV G.K B ρ' H' d' v → Q v H') → r xs H Q
theorem GO.outO {α β : Type} {rel : List Addr → Hp → α → β → Prop} {B L ρ H σ} {r : Option (α × Sto)} {Q : β → Hp → Prop} (g : GO G W xm B L ρ H σ rel (Sf.outO r) Q) : ∃ d S', r = some (d, S') ∧ ∀ v ρ' H', Post L ρ H ρ' H' → RH G B L ρ' H' S' → rel ρ' H' d v → Q v H' := by
  cases r with
  | none => exact g.elim
  | some p => obtain ⟨d, S'⟩ := p; exact ⟨d, S', rfl, g⟩
/-- an outcome that is there -/
theorem GO.ok0 {α β : Type} {rel : List Addr → Hp → α → β → Prop} {B L ρ H σ S env} {d : α} {Q : β → Hp → Prop} {v : β} (g : GO G W xm B L ρ H σ rel (.ok d S) Q) (A : At G B L ρ S env σ H) (r : rel ρ H d v) : Q v H := g v ρ H Post.refl A.rh r

theorem GO.mono {α β : Type} {rel : List Addr → Hp → α → β → Prop} {B L ρ H σ} {r : Out α} {Q Q' : β → Hp → Prop} (g : GO G W xm B L ρ H σ rel r Q) (h : ∀ v H', Q v H' → Q' v H') : GO G W xm B L ρ H σ rel r Q' := by
  cases r with
  | ok d S' => exact fun v ρ' H' p R r => h _ _ (g v ρ' H' p R r)
  | exc c S' => exact g
  | bad => exact g
theorem tE_mono {σ H Q Q'} (h : tE G W xm f σ H Q) (i : ∀ v H', Q v H' → Q' v H') : tE G W xm f σ H Q' := let ⟨B, L, ρ, S, env, A, g⟩ := h; ⟨B, L, ρ, S, env, A, g.mono i⟩
theorem tT_mono {σ H Q Q'} (h : tT G W xm ft σ H Q) (i : ∀ v H', Q v H' → Q' v H') : tT G W xm ft σ H Q' := let ⟨B, L, ρ, S, env, A, g⟩ := h; ⟨B, L, ρ, S, env, A, g.mono i⟩
theorem tA_mono {σ H Q Q'} (h : tA G W xm fs σ H Q) (i : ∀ v H', Q v H' → Q' v H') : tA G W xm fs σ H Q' := let ⟨B, L, ρ, S, env, A, g⟩ := h; ⟨B, L, ρ, S, env, A, g.mono i⟩
theorem se_imp {t : TE} (h : PE X e t) (i : ∀ σ H Q, tE (pg X) w.W w.xm f σ H Q → t σ H Q) : SE X w e f := PE.imp h i
theorem se_var {i : Nat} {x : Str} (h : PE X (.Name x pos) (tVar i)) : SE X w (.Name x pos) (fVar i) := by
  refine PE.imp h fun σ H Q ⟨B, L, ρ, S, env, A, g⟩ => ?_
  unfold fVar at g
  cases q : env[i]? with
  | none => rw [q] at g; exact g.elim
  | some d =>
    rw [q] at g
    rcases A.re.at' i d q with z | ⟨v, e1, r⟩
    · subst z; exact g.elim
    · refine ⟨v, e1, ?_⟩
      cases d
      case und => cases r
      all_goals exact GO.ok0 g A r
theorem se_con {v : V} {d : D} (h : PE X e (tC v)) (r : ∀ B ρ H, RV X.K B ρ H d v) : SE X w e (fCon d) := by
  refine PE.imp h fun σ H Q ⟨B, L, ρ, S, env, A, g⟩ => ?_
  exact GO.ok0 g A (r _ _ _)
theorem se_int {i : Int} {j} : SE X w (.Constant (.int i) j pos) (fCon (.int i)) := se_con pe_int fun _ _ _ => .int i
theorem se_bl {i : Bool} {j} : SE X w (.Constant (.bool i) j pos) (fCon (.bl i)) := se_con pe_bl fun _ _ _ => .bl i
theorem se_non {j} : SE X w (.Constant .none j pos) (fCon .non) := se_con pe_non fun _ _ _ => .non
theorem se_str {x : Str} {j} : SE X w (.Constant (.str x) j pos) (fCon (.str x)) := se_con pe_str fun _ _ _ => .str x
theorem go_op1 {r : V → Hp → VK → Prop} {g : Op1} (h : Ok1 (pg X) r g) {σ H Q env} {B L ρ : List Addr} {S : Sto} (A : At (pg X) B L ρ S env σ H) (gg : GO (pg X) w.W w.xm B L ρ H σ (rD (pg X) B) ((fa env S).bind fun x S1 => outO (g x S1)) Q) :
    tE (pg X) w.W w.xm fa σ H fun x H1 => r x H1 Q :=
  tE_mono (tE_bind (rel := rD (pg X)) A gg) fun x H1 ⟨B, L, ρ, S, d, A, r, g⟩ => let ⟨d', S', e, q⟩ := g.outO; h B L ρ S S' H1 d d' x Q A.rh r e q
theorem go_op2 {r : R2} {g : Op2} (h : Ok2 (pg X) r g) {σ H Q env} {B L ρ : List Addr} {S : Sto} (A : At (pg X) B L ρ S env σ H) (gg : GO (pg X) w.W w.xm B L ρ H σ (rD (pg X) B) (fOp2 g fa fb env S) Q) :
    tE (pg X) w.W w.xm fa σ H fun x H1 => tE (pg X) w.W w.xm fb σ H1 fun y H2 => r x y H2 Q :=
  tE_mono (tE_bind2 (rel := rD (pg X)) A gg) fun x H1 h1 => tE_mono h1 fun y H2 ⟨B, L, ρ, S, d, d2, A, r, r2, g⟩ => let ⟨d', S', e, q⟩ := g.outO; h B L ρ S S' H2 d d2 d' x y Q A.rh r r2 e q
theorem se_bin {op : Operator} {r : R2} {g : Op2} (ho : OpR X (binaryOp op) r) (h : Ok2 (pg X) r g) (ha : SE X w a fa) (hb : SE X w b fb) : SE X w (.BinOp a op b pos) (fOp2 g fa fb) :=
  PE.imp (pe_op ho ha hb) fun σ H Q ⟨B, L, ρ, S, env, A, gg⟩ => go_op2 h A gg
theorem se_un {op : UnaryOp} {r : V → Hp → VK → Prop} {g : Op1} (ho : UnR X (unaryOp op) r) (h : Ok1 (pg X) r g) (ha : SE X w a fa) : SE X w (.UnaryOp op a pos) (fOp1 g fa) :=
  PE.imp (pe_un ho ha) fun σ H Q ⟨B, L, ρ, S, env, A, gg⟩ => go_op1 h A gg
theorem se_cmp {op : CmpOp} {r : R2} {g : Op2} (ho : OpR X (compareOp op) r) (h : Ok2 (pg X) r g) (ha : SE X w a fa) (hb : SE X w b fb) (hm : behindInMarks op b = false := by rfl) : SE X w (.Compare a [op] [b] pos) (fOp2 g fa fb) :=
  PE.imp (pe_cmpR ho ha hb hm) fun σ H Q ⟨B, L, ρ, S, env, A, gg⟩ => go_op2 h A gg
/-- an item -/
theorem se_ix {r : R2} {g : Op2} (ho : IxR X r) (h : Ok2 (pg X) r g) (ha : SE X w a fa) (hb : SE X w b fb) (hs : PlainIx b := by intro _ _; rfl) : SE X w (.Subscript a b pos) (fOp2 g fa fb) :=
  PE.imp (pe_ix ho ha hb hs) fun σ H Q ⟨B, L, ρ, S, env, A, gg⟩ => go_op2 h A gg
/-- a value as a test: what the value's test is worth -/
theorem st_val (h : SE X w e f) (he : ∀ whole, isTrue e X.env whole = (do let v ← whole; standAt e.pos; holding [v] (truthy v)) := by intro _; rfl) : ST X w e (tVal f) := by
  refine PT.imp (pt_val h he) fun σ H Q ⟨B, L, ρ, S, env, A, gg⟩ => ?_
  refine tE_mono (tE_bind (rel := fun _ => rB) (f := f) A gg) fun x H1 ⟨B, L, ρ, S, d, A, r, g⟩ => ?_
  cases r with
  | bl c => exact ⟨c, rfl, GO.ok0 g A rfl⟩
  | _ => exact g.elim
/-- a comparison as a test -/
theorem st_cmp {op : CmpOp} {r : R2} {g : Op2} (ho : OpR X (compareOp op) r) (h : Ok2 (pg X) r g) (ha : SE X w a fa) (hb : SE X w b fb) (hm : behindInMarks op b = false := by rfl) : ST X w (.Compare a [op] [b] pos) (tVal (fOp2 g fa fb)) := by
  refine PT.imp (pt_cmpR ho ha hb hm) fun σ H Q ⟨B, L, ρ, S, env, A, gg⟩ => ?_
  have key : tE (pg X) w.W w.xm (fOp2 g fa fb) σ H fun x H1 => ∃ k, x = .bl k ∧ Q k H1 := by
    refine tE_mono (tE_bind (rel := fun _ => rB) (f := fOp2 g fa fb) A gg) fun x H1 ⟨B, L, ρ, S, d, A, r, g⟩ => ?_
    cases r with
    | bl c => exact ⟨c, rfl, GO.ok0 g A rfl⟩
    | _ => exact g.elim
  obtain ⟨B, L, ρ, S, env, A, gg⟩ := key
  exact go_op2 h A gg
theorem st_not (h : ST X w a ft) : ST X w (.UnaryOp .Not a pos) (tNot ft) :=
  PT.imp (pt_not h) fun σ H Q ⟨B, L, ρ, S, env, A, gg⟩ => tT_mono (tT_bind (rel := fun _ => rB) A gg) fun x H1 ⟨B, L, ρ, S, A, g⟩ => GO.ok0 g A rfl
theorem sw_and1 (h : ST X w a ft) : SW X w (.BoolOp .And [a] pos) ft := pw_and1 h
theorem sw_or1 (h : ST X w a ft) : SW X w (.BoolOp .Or [a] pos) ft := pw_or1 h
theorem sw_and (ha : ST X w a ft) (hb : SW X w (.BoolOp .And (b :: rest) pos) ft') : SW X w (.BoolOp .And (a :: b :: rest) pos) (Sf.tAnd ft ft') :=
  PW.imp (pw_and ha hb) fun σ H Q ⟨B, L, ρ, S, env, A, gg⟩ => tT_mono (tT_bind (rel := fun _ => rB) A gg) fun x H1 ⟨B, L, ρ, S, A, g⟩ => by
    cases x with
    | true => exact iteT ⟨B, L, ρ, S, env, A, g⟩
    | false => exact iteF (GO.ok0 g A rfl)
theorem sw_or (ha : ST X w a ft) (hb : SW X w (.BoolOp .Or (b :: rest) pos) ft') : SW X w (.BoolOp .Or (a :: b :: rest) pos) (Sf.tOr ft ft') :=
  PW.imp (pw_or ha hb) fun σ H Q ⟨B, L, ρ, S, env, A, gg⟩ => tT_mono (tT_bind (rel := fun _ => rB) A gg) fun x H1 ⟨B, L, ρ, S, A, g⟩ => by
    cases x with
    | true => exact iteT (GO.ok0 g A rfl)
    | false => exact iteF ⟨B, L, ρ, S, env, A, g⟩
theorem st_bool (h : SW X w e ft) : ST X w e ft := PW.pt h
theorem se_if (hc : ST X w c ft) (ha : SE X w a fa) (hb : SE X w b fb) : SE X w (.IfExp c a b pos) (fIf ft fa fb) :=
  PE.imp (pe_ifExp hc ha hb) fun σ H Q ⟨B, L, ρ, S, env, A, gg⟩ => tT_mono (tT_bind (rel := rD (pg X)) A gg) fun x H1 ⟨B, L, ρ, S, A, g⟩ => by
    cases x with
    | true => exact iteT ⟨B, L, ρ, S, env, A, g⟩
    | false => exact iteF ⟨B, L, ρ, S, env, A, g⟩
theorem se_one {op} (h : SE X w a f) : SE X w (.BoolOp op [a] pos) f := pe_one h
theorem se_and (ha : SE X w a fa) (hb : SE X w (.BoolOp .And (b :: rest) pos) fb) : SE X w (.BoolOp .And (a :: b :: rest) pos) (fAnd fa fb) :=
  PE.imp (pe_and ha hb) fun σ H Q ⟨B, L, ρ, S, env, A, gg⟩ => tE_mono (tE_bind (rel := rD (pg X)) A gg) fun x H1 ⟨B, L, ρ, S, d, A, r, g⟩ => by
    cases r with
    | bl c =>
      refine ⟨c, rfl, ?_⟩
      cases c with
      | true => exact iteT ⟨B, L, ρ, S, env, A, g⟩
      | false => exact iteF (GO.ok0 g A (.bl _))
    | _ => exact g.elim
theorem se_or (ha : SE X w a fa) (hb : SE X w (.BoolOp .Or (b :: rest) pos) fb) : SE X w (.BoolOp .Or (a :: b :: rest) pos) (fOr fa fb) :=
  PE.imp (pe_or ha hb) fun σ H Q ⟨B, L, ρ, S, env, A, gg⟩ => tE_mono (tE_bind (rel := rD (pg X)) A gg) fun x H1 ⟨B, L, ρ, S, d, A, r, g⟩ => by
    cases r with
    | bl c =>
      refine ⟨c, rfl, ?_⟩
      cases c with
      | true => exact iteT (GO.ok0 g A (.bl _))
      | false => exact iteF ⟨B, L, ρ, S, env, A, g⟩
    | _ => exact g.elim
theorem se_not (ha : SE X w a fa) : SE X w (.UnaryOp .Not a pos) (fNot fa) :=
  PE.imp (pe_not ha) fun σ H Q ⟨B, L, ρ, S, env, A, gg⟩ => tE_mono (tE_bind (rel := rD (pg X)) A gg) fun x H1 ⟨B, L, ρ, S, d, A, r, g⟩ => by
    cases r with
    | bl c => exact ⟨c, rfl, GO.ok0 g A (.bl _)⟩
    | _ => exact g.elim
theorem sa_nil : SA X w [] fNil := PA.imp pa_nil fun σ H Q ⟨B, L, ρ, S, env, A, gg⟩ => GO.ok0 gg A .nil
theorem sa_cons (ha : SE X w a fa) (hr : SA X w es fs) (hs : starEach (a :: es) X.env = (false, eval a X.env) :: starEach es X.env := by rfl) : SA X w (a :: es) (fCons fa fs) := by
  refine PA.imp (pa_cons ha hr hs) fun σ H Q ⟨B, L, ρ, S, env, A, gg⟩ => ?_
  refine ⟨B, L, ρ, S, env, A, ?_⟩
  revert gg
  unfold fCons
  cases fa env S with
  | ok d S' =>
    intro g v ρ' H' p R r
    have g' := GO.step g p
    refine ⟨B, L, ρ', S', env, A.step p R, ?_⟩
    revert g'
    show GO (pg X) w.W w.xm B L ρ' H' σ (rL (pg X) B) ((fs env S').bind fun y S2 => .ok (d :: y) S2) Q → _
    cases fs env S' with
    | ok d' S2 => exact fun g' v2 ρ2 H2 p2 R2 r2 => g' _ ρ2 H2 p2 R2 (.cons (r.mono p2) r2)
    | exc c S' => exact fun g => g
    | bad => exact fun g => g
  | exc c S' => exact fun g => g
  | bad => exact fun g => g
theorem go_opN {r : List V → Hp → VK → Prop} {g : OpN} (h : OkN (pg X) r g) {σ H Q env} {B L ρ : List Addr} {S : Sto} (A : At (pg X) B L ρ S env σ H) (gg : GO (pg X) w.W w.xm B L ρ H σ (rD (pg X) B) (fOpN g fs env S) Q) :
    tA (pg X) w.W w.xm fs σ H fun x H1 => r x H1 Q :=
  tA_mono (tA_bind (rel := rD (pg X)) A gg) fun x H1 ⟨B, L, ρ, S, d, A, r, g⟩ => let ⟨d', S', e, q⟩ := g.outO; h B L ρ S S' H1 d d' x Q A.rh r e q
/-- f(e, ..), f a built-in function; T(e, ..) -/
theorem se_callB {x : Str} {p : Pos} {id : String} {r : List V → Hp → VK → Prop} {g : OpN} (hc : CallR X (.builtin id) r) (h : OkN (pg X) r g) (ha : SA X w (e :: es) fs) (hg : Gl X x) (hm : X.mg x = none) (hv : bootBuiltins x = some (.builtin id)) (hn : x ≠ "__name__" := by decide) (hdb : (x == ("__debug__" : Str)) = false := by decide)
    (he : starEach (e :: es) X.env = (false, eval e X.env) :: starEach es X.env := by rfl) (hpl : (backTo pos (starEach es X.env)).any (·.1) = false := by rfl) : SE X w (.Call (.Name x p) (e :: es) [] pos) (fOpN g fs) :=
  PE.imp (pe_callB hc hg hm hv ha hn hdb he hpl) fun σ H Q ⟨B, L, ρ, S, env, A, gg⟩ => go_opN h A gg
theorem se_callTy {x : Str} {p : Pos} {T : String} {r : List V → Hp → VK → Prop} {g : OpN} (hc : CallR X (.type T) r) (h : OkN (pg X) r g) (ha : SA X w (e :: es) fs) (hg : Gl X x) (hm : X.mg x = none) (hv : bootBuiltins x = some (.type T)) (hn : x ≠ "__name__" := by decide) (hdb : (x == ("__debug__" : Str)) = false := by decide)
    (he : starEach (e :: es) X.env = (false, eval e X.env) :: starEach es X.env := by rfl) (hpl : (backTo pos (starEach es X.env)).any (·.1) = false := by rfl) : SE X w (.Call (.Name x p) (e :: es) [] pos) (fOpN g fs) :=
  PE.imp (pe_callTy hc hg hm hv ha hn hdb he hpl) fun σ H Q ⟨B, L, ρ, S, env, A, gg⟩ => go_opN h A gg
end
end Sf
end

section
set_option Elab.async false
set_option maxRecDepth 100000
set_option linter.all false
/-! Sf3: the operations by values. -/
namespace Sf
open PySem PySem.Spec PyProof.Rows L2

/-- what a list's place holds -/
def lsW : D → Sto → Option (List D)
  | .lst l, _ => some l
  | .loc n, S => match S[n]? with
    | some (.lst l) => some l
    | _ => none
  | _, _ => none
def lsR : D → Sto → Option (List D)
  | .scr l, _ => some l
  | d, S => lsW d S
def mkL (m : Bool) (l : List D) (S : Sto) : Option (D × Sto) := bif fit l.length then (bif m then some (.loc S.length, S ++ [.lst l]) else some (.lst l, S)) else none
def intsD : List D → Option (List Int)
  | [] => some []
  | .int i :: r => match intsD r with
    | some ns => some (i :: ns)
    | none => none
  | _ :: _ => none
def blsD : List D → Option (List Bool)
  | [] => some []
  | .bl i :: r => match blsD r with
    | some ns => some (i :: ns)
    | none => none
  | _ :: _ => none

section
variable {G : Pg} {B L ρ : List Addr} {S S' : Sto} {H : Hp} {d d' : D} {x : V} {l : List D} {Q : VK}
theorem lsW_ok (R : RH G B L ρ H S) (r : RV G.K B ρ H d x) (e : lsW d S = some l) : ∃ a vs, x = .ref a ∧ H a = some (.lst vs) ∧ RVs G.K B ρ H l vs := by
  cases r with
  | lst h1 h2 h3 h4 => cases e; exact ⟨_, _, rfl, h3, h4⟩
  | @loc n a h =>
    unfold lsW at e
    simp only at e
    cases q : S[n]? with
    | none => rw [q] at e; cases e
    | some o =>
      rw [q] at e
      cases o with
      | lst ds => cases e; obtain ⟨vs, h1, h2⟩ := R.ob n a _ h q; exact ⟨_, _, rfl, h1, h2⟩
      | _ => cases e
  | _ => cases e
theorem lsR_ok (R : RH G B L ρ H S) (r : RV G.K B ρ H d x) (e : lsR d S = some l) : ∃ a vs, x = .ref a ∧ SqL G.K H a vs ∧ RVs G.K B ρ H l vs := by
  cases r with
  | scr h1 h2 => cases e; exact ⟨_, _, rfl, h1.sq, h2⟩
  | lst h1 h2 h3 h4 => obtain ⟨a, vs, e1, e2, e3⟩ := lsW_ok R (.lst h1 h2 h3 h4) e; exact ⟨a, vs, e1, .inl (.inl e2), e3⟩
  | loc h => obtain ⟨a, vs, e1, e2, e3⟩ := lsW_ok R (.loc h) e; exact ⟨a, vs, e1, .inl (.inl e2), e3⟩
  | _ => cases e
theorem intsD_ok : ∀ {l : List D} {ns : List Int} {vs : List V}, RVs G.K B ρ H l vs → intsD l = some ns → vs = ns.map V.int
  | [], _, _, .nil, e => by cases e; rfl
  | d :: r, ns, _, .cons h t, e => by
    cases h with
    | int i =>
      unfold intsD at e
      cases q : intsD r with
      | none => rw [q] at e; cases e
      | some ms => rw [q] at e; cases e; rw [intsD_ok t q]; rfl
    | _ => cases e
theorem blsD_ok : ∀ {l : List D} {ns : List Bool} {vs : List V}, RVs G.K B ρ H l vs → blsD l = some ns → vs = ns.map V.bl
  | [], _, _, .nil, e => by cases e; rfl
  | d :: r, ns, _, .cons h t, e => by
    cases h with
    | bl i =>
      unfold blsD at e
      cases q : blsD r with
      | none => rw [q] at e; cases e
      | some ms => rw [q] at e; cases e; rw [blsD_ok t q]; rfl
    | _ => cases e
abbrev Fin (G : Pg) (B L ρ : List Addr) (H : Hp) (S' : Sto) (d' : D) (Q : VK) : Prop := ∀ v ρ' H', Post L ρ H ρ' H' → RH G B L ρ' H' S' → RV G.K B ρ' H' d' v → Q v H'
theorem here (q : Fin G B L ρ H S' d' Q) (R : RH G B L ρ H S') (r : RV G.K B ρ H d' x) : Q x H := q x ρ H Post.refl R r
theorem mkL_ok {m : Bool} {vs : List V} (R : RH G B L ρ H S) (r : RVs G.K B ρ H l vs) (e : mkL m l S = some (d', S')) (q : Fin G B L ρ H S' d' Q) : vs.length ≤ sizeLine ∧ ∀ p, H p = none → Q (.ref p) (upd H p (.lst vs)) := by
  unfold mkL at e
  cases hf : fit l.length with
  | false => rw [hf] at e; cases e
  | true =>
    rw [hf] at e
    refine ⟨by rw [← r.length]; exact fit_le hf, fun p hp => ?_⟩
    cases m with
    | false =>
      cases e
      exact q _ ρ _ (Post.newV hp) (R.newV hp) (.lst (R.fresh hp).2 (R.fresh hp).1 upd_same (RVs.mono (Post.newV (L := L) hp) _ _ r))
    | true =>
      cases e
      refine q _ (ρ ++ [p]) _ (Post.newL hp) (R.newL hp ⟨vs, upd_same, RVs.mono (Post.newL (L := L) hp) _ _ r⟩) (.loc ?_)
      rw [← R.len, List.getElem?_append_right (Nat.le_refl _)]
      simp
theorem mkT_ok {vs : List V} (R : RH G B L ρ H S) (r : RVs G.K B ρ H l vs) (q : Fin G B L ρ H S (.tup l) Q) : ∀ p, H p = none → Q (.ref p) (upd H p (.tup vs)) := fun p hp =>
  q _ ρ _ (Post.newV hp) (R.newV hp) (.tup ⟨(R.fresh hp).2, (R.fresh hp).1, upd_same⟩ (RVs.mono (Post.newV (L := L) hp) _ _ r))
end

section
open HT
theorem tuple_mulW1 (l : Addr) (items : Array Value) (n : Nat) (dd : Option Addr) (sl : Array (Option Value)) (u : Tok) :
    Meets (Builtin.«tuple.__mul__» ⟨[.ref l, .int 1 u], []⟩) (fun _ R s => s.heap.get? l = some { cls := .type "tuple", dict := dd, data := .seq items n, slots := sl } ∧
      R (.ok (.ret (Value.ref l))) s) :=
  .of_wp fun prog w A R s h => by
    obtain ⟨hp, g, d, tk, os⟩ := s
    obtain ⟨hl, h⟩ := h
    have f1 := AutoSeq1.idx_int
    have ht : Shared.TypeIs ⟨hp, g, d, tk, os⟩ (.ref l) "tuple" := ⟨_, hl, rfl⟩
    wp_walk using wpAny_loadPart' hl
    exact ⟨_, rfl, h⟩
/-- t * 1 is t itself -/
def rRepT1 (K : PySem.W.Frag) : R2 := fun x y H Q => ∃ l xs, x = .ref l ∧ y = .int 1 ∧ SqT K H l xs ∧ Q (.ref l) H
theorem op_repT1 {X : Cx} : OpR X (binaryOp .Mult) (rRepT1 X.K) := by
  intro pins s σ H x y v u Q I rx ry h
  obtain ⟨l, xs, rfl, rfl, hT, q⟩ := h
  cases rx
  obtain ⟨t, rfl⟩ := ry
  obtain ⟨its, r, ⟨⟨cls, dd, data, sl⟩, ho, hc, n, hd⟩, hs⟩ := I.tuple hT
  simp only at hc hd
  subst hc hd
  exact wpAny_binaryOp_repeat_ref (T := "tuple") (U := "int") (by decide) ⟨_, ho, rfl⟩ (fun s' => typeIs_int s' 1 t) noFill_tuple_mul F.fills_int_mul F.slot_int_rmul repeat_tuple F.slot_int_index.lookup
    (call_meets F.slot_int_rmul (typeIs_int s 1 t) F.entry_int_rmul (F.args_int_rmul_2 _ _) (int_rmul_tuple 1 t l its.toArray n dd sl)
      ⟨ho, rfl, ⟨_, ho, rfl⟩, call_meets F.slot_tuple_mul ⟨_, ho, rfl⟩ F.entry_tuple_mul (F.args_tuple_mul_2 _ _) (tuple_mulW1 l its.toArray n dd sl t) ⟨ho, ⟨.ref l, H, I, rfl, q⟩⟩⟩)
end
/-! ### arithmetic -/
def oAdd (m : Bool) : Op2 := fun x y S => match x, y with
  | .int i, .int j => some (.int (i + j), S)
  | .str a, .str b => bif fit (a.length + b.length) then some (.str (a ++ b), S) else none
  | .tup a, .tup b => bif fit (a.length + b.length) then some (.tup (a ++ b), S) else none
  | x, y => match lsW x S, lsW y S with
    | some a, some b => mkL m (a ++ b) S
    | _, _ => none
def oSub : Op2 := fun x y S => match x, y with
  | .int i, .int j => some (.int (i - j), S)
  | _, _ => none
def mulOk (i j : Int) : Bool := Nat.blt i.natAbs 18446744073709551616 || Nat.blt j.natAbs 18446744073709551616 || Nat.blt (i.natAbs.log2 + j.natAbs.log2) 1000000
def oMul (m : Bool) : Op2 := fun x y S => match x, y with
  | .int i, .int j => bif mulOk i j then some (.int (i * j), S) else none
  | .tup l, .int k => bif decide (k = 1) then some (.tup l, S) else bif (!l.isEmpty) && Nat.ble l.length 1000 && decide (2 ≤ k) && decide (k ≤ 1000) then some (.tup (List.replicate k.toNat l).flatten, S) else none
  | x, .int k => match lsW x S with
    | some l => bif decide (-1000000 ≤ k) && decide (k ≤ 1000000) && fit (l.length * k.toNat) then mkL m (List.replicate k.toNat l).flatten S else none
    | none => none
  | _, _ => none
def oFdiv : Op2 := fun x y S => match x, y with
  | .int i, .int j => bif (decide (0 < j)) && Nat.blt j.natAbs.log2 9000 then some (.int (i / j), S) else
      bif (decide (j < 0)) && Nat.blt j.natAbs.log2 9000 then some (.int (i.fdiv j), S) else none
  | _, _ => none
def oMod : Op2 := fun x y S => match x, y with
  | .int i, .int j => bif (decide (0 < j)) then some (.int (i % j), S) else none
  | _, _ => none
def oPow : Op2 := fun x y S => match x, y with
  | .int i, .int j => bif (decide (0 ≤ j)) && (decide (j ≤ 1000000)) && Nat.blt i.natAbs 18446744073709551616 then some (.int (i ^ j.toNat), S) else none
  | _, _ => none
def oNeg : Op1 := fun x S => match x with
  | .int i => some (.int (-i), S)
  | _ => none

section
variable {X : Cx}
abbrev rAddR (K : PySem.W.Frag) : R2 := fun x y H Q => rI0 (fun i j => .int (i + j)) x y H Q ∨ (∃ i j, x = .str i ∧ y = .str j ∧ i.length + j.length ≤ sizeLine ∧ Q (.str (i ++ j)) H) ∨ rCatA K x y H Q ∨ rCat x y H Q
theorem opr_add : OpR X (binaryOp .Add) (rAddR X.K) := op_add.or (op_add_str.or (op_catA.or op_cat))
theorem ok_add {m : Bool} : Ok2 (pg X) (rAddR X.K) (oAdd m) := by
  intro B L ρ S S' H d1 d2 d' x y Q R r1 r2 e q
  have gen : (match lsW d1 S, lsW d2 S with
    | some a, some b => mkL m (a ++ b) S
    | _, _ => none) = some (d', S') → rAddR X.K x y H Q := by
    intro e
    cases e1 : lsW d1 S with
    | none => rw [e1] at e; cases e
    | some a =>
      cases e2 : lsW d2 S with
      | none => rw [e1, e2] at e; cases e
      | some b =>
        rw [e1, e2] at e
        obtain ⟨p, vs, rfl, hp, rv⟩ := lsW_ok R r1 e1
        obtain ⟨p', vs', rfl, hp', rv'⟩ := lsW_ok R r2 e2
        obtain ⟨z, q⟩ := mkL_ok R (rv.append rv') e q
        exact .inr (.inr (.inr ⟨p, p', vs, vs', rfl, rfl, hp, hp', by simpa using z, q⟩))
  cases r1 with
  | int i =>
    cases r2 with
    | int j => cases e; exact .inl ⟨i, j, rfl, rfl, here q R (.int _)⟩
    | _ => exact gen e
  | str a =>
    cases r2 with
    | str b =>
      unfold oAdd at e
      cases hf : fit (a.length + b.length) with
      | false => simp [hf] at e
      | true => simp [hf] at e; obtain ⟨rfl, rfl⟩ := e; exact .inr (.inl ⟨a, b, rfl, rfl, fit_le hf, here q R (.str _)⟩)
    | _ => exact gen e
  | @tup a vs ds h1 h2 =>
    cases r2 with
    | @tup b ws es k1 k2 =>
      unfold oAdd at e
      cases hf : fit (ds.length + es.length) with
      | false => simp [hf] at e
      | true =>
        simp [hf] at e; obtain ⟨rfl, rfl⟩ := e
        refine .inr (.inr (.inl ⟨a, b, vs, ws, rfl, rfl, h1.sq, k1.sq, by rw [← h2.length, ← k2.length]; exact fit_le hf, fun z => ?_, fun _ z => ?_, fun _ _ p hp => ?_⟩))
        · subst z
          cases h2
          exact here q R (.tup k1 (by simpa using k2))
        · subst z
          cases k2
          exact here q R (.tup h1 (by simpa using h2))
        · exact mkT_ok R (h2.append k2) q p hp
    | _ => exact gen e
  | _ => exact gen e
theorem ok_sub : Ok2 (pg X) (rI0 fun i j => .int (i - j)) oSub := by
  intro B L ρ S S' H d1 d2 d' x y Q R r1 r2 e q
  cases r1 with
  | int i =>
    cases r2 with
    | int j => cases e; exact ⟨i, j, rfl, rfl, here q R (.int _)⟩
    | _ => cases e
  | _ => cases e
theorem mulOk_ok {i j : Int} (h : mulOk i j = true) : CMul i j ∨ CMulW i j := by
  unfold mulOk at h
  rw [Bool.or_eq_true, Bool.or_eq_true] at h
  rcases h with (h | h) | h
  · have h := Nat.le_of_ble_eq_true h
    exact .inl (.inl (by omega))
  · have h := Nat.le_of_ble_eq_true h
    exact .inl (.inr (by omega))
  · exact .inr (Nat.le_of_ble_eq_true h)
abbrev rMulR (K : PySem.W.Frag) : R2 := fun x y H Q => (rI CMul (fun i j => .int (i * j)) x y H Q ∨ rI CMulW (fun i j => .int (i * j)) x y H Q) ∨ rRepT K x y H Q ∨ rRep x y H Q ∨ rRepT1 K x y H Q
theorem opr_mul : OpR X (binaryOp .Mult) (rMulR X.K) := (op_mul.or op_mulW).or (op_repT.or (op_rep.or op_repT1))
theorem ok_mul {m : Bool} : Ok2 (pg X) (rMulR X.K) (oMul m) := by
  intro B L ρ S S' H d1 d2 d' x y Q R r1 r2 e q
  have gen : ∀ k : Int, y = .int k → (match lsW d1 S with
    | some l => bif decide (-1000000 ≤ k) && decide (k ≤ 1000000) && fit (l.length * k.toNat) then mkL m (List.replicate k.toNat l).flatten S else none
    | none => none) = some (d', S') → rMulR X.K x y H Q := by
    intro k hy e
    subst hy
    cases e1 : lsW d1 S with
    | none => rw [e1] at e; cases e
    | some l =>
      rw [e1] at e
      obtain ⟨p, vs, rfl, hp, rv⟩ := lsW_ok R r1 e1
      simp only at e
      cases hf : (decide (-1000000 ≤ k) && decide (k ≤ 1000000) && fit (l.length * k.toNat)) with
      | false => rw [hf] at e; cases e
      | true =>
        rw [hf] at e
        rw [Bool.and_eq_true, Bool.and_eq_true] at hf
        obtain ⟨⟨h1, h2⟩, h3⟩ := hf
        have h1 := of_decide_eq_true h1
        have h2 := of_decide_eq_true h2
        obtain ⟨z, q⟩ := mkL_ok R (rv.rep k.toNat) e q
        exact .inr (.inr (.inl ⟨p, k, vs, rfl, rfl, hp, by omega, by omega, by rw [← rv.length]; exact fit_le h3, q⟩))
  cases r2 with
  | int k =>
    cases r1 with
    | int i =>
      unfold oMul at e
      cases hf : mulOk i k with
      | false => simp [hf] at e
      | true =>
        simp [hf] at e; obtain ⟨rfl, rfl⟩ := e
        rcases mulOk_ok hf with c | c
        · exact .inl (.inl ⟨i, k, rfl, rfl, c, here q R (.int _)⟩)
        · exact .inl (.inr ⟨i, k, rfl, rfl, c, here q R (.int _)⟩)
    | @tup a vs ds h1 h2 =>
      unfold oMul at e
      simp only at e
      cases h1k : decide (k = 1) with
      | true =>
        rw [h1k] at e
        cases e
        exact .inr (.inr (.inr ⟨a, vs, rfl, by rw [of_decide_eq_true h1k], h1.sq, here q R (.tup h1 h2)⟩))
      | false =>
      rw [h1k] at e
      simp only [cond_false] at e
      cases hf : ((!ds.isEmpty) && Nat.ble ds.length 1000 && decide (2 ≤ k) && decide (k ≤ 1000)) with
      | false => rw [hf] at e; cases e
      | true =>
        rw [hf] at e
        cases e
        rw [Bool.and_eq_true, Bool.and_eq_true, Bool.and_eq_true] at hf
        obtain ⟨⟨⟨g1, g2⟩, g3⟩, g4⟩ := hf
        refine .inr (.inl ⟨a, k, vs, rfl, rfl, h1.sq, ?_, of_decide_eq_true g3, of_decide_eq_true g4, by rw [← h2.length]; exact Nat.le_of_ble_eq_true g2, mkT_ok R (h2.rep _) q⟩)
        rintro rfl
        cases h2
        cases g1
    | _ => exact gen k rfl e
  | _ => cases r1 <;> cases e
abbrev rFdv : R2 := rI (fun _ j => j ≠ 0 ∧ j.natAbs.log2 < 9000) fun i j => .int (i.fdiv j)
theorem opr_fdiv : OpR X (binaryOp .FloorDiv) rFdv := opI fun i j _ _ _ _ _ hc q => floordiv_int hc.1 q (.inl (PyProof.noPylong_of_log2 hc.2))
theorem ok_fdiv : Ok2 (pg X) rFdv oFdiv := by
  intro B L ρ S S' H d1 d2 d' x y Q R r1 r2 e q
  cases r1 with
  | int i =>
    cases r2 with
    | int j =>
      unfold oFdiv at e
      simp only at e
      cases hf : ((decide (0 < j)) && Nat.blt j.natAbs.log2 9000) with
      | true =>
        rw [hf] at e
        cases e
        rw [Bool.and_eq_true] at hf
        have h1 := of_decide_eq_true hf.1
        refine ⟨i, j, rfl, rfl, ⟨by omega, Nat.le_of_ble_eq_true hf.2⟩, ?_⟩
        show Q (.int (i.fdiv j)) H
        rw [Int.fdiv_eq_ediv_of_nonneg i (show (0 : Int) ≤ j by omega)]
        exact here q R (.int _)
      | false =>
        rw [hf] at e
        cases hf : ((decide (j < 0)) && Nat.blt j.natAbs.log2 9000) with
        | true =>
          rw [hf] at e
          cases e
          rw [Bool.and_eq_true] at hf
          have h1 := of_decide_eq_true hf.1
          exact ⟨i, j, rfl, rfl, ⟨by omega, Nat.le_of_ble_eq_true hf.2⟩, here q R (.int _)⟩
        | false => rw [hf] at e; cases e
    | _ => cases e
  | _ => cases e
theorem ok_mod : Ok2 (pg X) (rI (fun _ j => 0 < j) fun i j => .int (i % j)) oMod := by
  intro B L ρ S S' H d1 d2 d' x y Q R r1 r2 e q
  cases r1 with
  | int i =>
    cases r2 with
    | int j =>
      unfold oMod at e
      simp only at e
      cases hf : (decide (0 < j)) with
      | true => rw [hf] at e; cases e; exact ⟨i, j, rfl, rfl, of_decide_eq_true hf, here q R (.int _)⟩
      | false => rw [hf] at e; cases e
    | _ => cases e
  | _ => cases e
theorem ok_pow : Ok2 (pg X) (rI CPow fun i j => .int (i ^ j.toNat)) oPow := by
  intro B L ρ S S' H d1 d2 d' x y Q R r1 r2 e q
  cases r1 with
  | int i =>
    cases r2 with
    | int j =>
      unfold oPow at e
      simp only at e
      cases hf : ((decide (0 ≤ j)) && (decide (j ≤ 1000000)) && Nat.blt i.natAbs 18446744073709551616) with
      | true =>
        rw [hf] at e; cases e
        rw [Bool.and_eq_true, Bool.and_eq_true] at hf
        exact ⟨i, j, rfl, rfl, ⟨of_decide_eq_true hf.1.1, of_decide_eq_true hf.1.2, Nat.le_of_ble_eq_true hf.2⟩, here q R (.int _)⟩
      | false => rw [hf] at e; cases e
    | _ => cases e
  | _ => cases e
theorem ok_neg : Ok1 (pg X) (rU fun i => .int (-i)) oNeg := by
  intro B L ρ S S' H d d' x Q R r e q
  cases r with
  | int i => cases e; exact ⟨i, rfl, here q R (.int _)⟩
  | _ => cases e
end

/-! ### comparisons -/
mutual
def D.py : D → Option PyData
  | .non => some .none
  | .bl b => some (.bool b)
  | .int i => some (.int i)
  | .str x => some (.str x)
  | .tup l => (D.pys l).map .tuple
  | .lst l => (D.pys l).map .list
  | .scr l => (D.pys l).map .list
  | _ => none
def D.pys : List D → Option (List PyData)
  | [] => some []
  | d :: ds => match D.py d, D.pys ds with
    | some k, some ks => some (k :: ks)
    | _, _ => none
end
mutual
theorem py_ok {K : PySem.W.Frag} {B ρ : List Addr} {H : Hp} : ∀ (d : D) (x : V) (p : PyData), RV K B ρ H d x → D.py d = some p → Dp K H x p
  | .und, _, _, h, _ => by cases h
  | .non, _, _, .non, e => by cases e; exact .non
  | .bl b, _, _, .bl _, e => by cases e; exact .bl b
  | .int b, _, _, .int _, e => by cases e; exact .int b
  | .str b, _, _, .str _, e => by cases e; exact .str b
  | .tup l, _, p, .tup h r, e => by
    unfold D.py at e
    cases q : D.pys l with
    | none => rw [q] at e; cases e
    | some ks => rw [q] at e; cases e; exact .tup h.sq (pys_ok l _ ks r q)
  | .lst l, _, p, .lst h1 h2 h r, e => by
    unfold D.py at e
    cases q : D.pys l with
    | none => rw [q] at e; cases e
    | some ks => rw [q] at e; cases e; exact .lst (.inl (.inl h)) (pys_ok l _ ks r q)
  | .scr l, _, p, .scr h r, e => by
    unfold D.py at e
    cases q : D.pys l with
    | none => rw [q] at e; cases e
    | some ks => rw [q] at e; cases e; exact .lst h.sq (pys_ok l _ ks r q)
  | .loc _, _, _, _, e => by cases e
  | .glob _, _, _, _, e => by cases e
theorem pys_ok {K : PySem.W.Frag} {B ρ : List Addr} {H : Hp} : ∀ (ds : List D) (xs : List V) (ps : List PyData), RVs K B ρ H ds xs → D.pys ds = some ps → DpAll K H xs ps
  | [], _, _, .nil, e => by cases e; exact .nil
  | d :: ds, _, ps, .cons h t, e => by
    unfold D.pys at e
    cases q : D.py d with
    | none => rw [q] at e; cases e
    | some k =>
      cases q' : D.pys ds with
      | none => rw [q, q'] at e; cases e
      | some ks => rw [q, q'] at e; cases e; exact .cons (py_ok d _ _ h q) (pys_ok ds _ _ t q')
end
/-- a list's place seen as the list -/
def deref (S : Sto) : D → D
  | .loc n => match S[n]? with
    | some (.lst l) => .lst l
    | _ => .loc n
  | d => d
theorem deref_ok {G : Pg} {B L ρ : List Addr} {S : Sto} {H : Hp} {d : D} {x : V} {p : PyData} (R : RH G B L ρ H S) (r : RV G.K B ρ H d x) (e : D.py (deref S d) = some p) : Dp G.K H x p := by
  cases d with
  | loc n =>
    cases r with
    | @loc _ a h =>
    unfold deref at e
    simp only at e
    cases q : S[n]? with
    | none => rw [q] at e; cases e
    | some o =>
      rw [q] at e
      cases o with
      | lst l =>
        obtain ⟨vs, h1, h2⟩ := R.ob n a _ h q
        simp only at e
        unfold D.py at e
        cases q : D.pys l with
        | none => rw [q] at e; cases e
        | some ks => rw [q] at e; cases e; exact .lst (.inl (.inl h1)) (pys_ok l _ ks h2 q)
      | _ => cases e
  | _ => exact py_ok _ _ _ r e
/-- x == y, as a bool -/
def eqB (x y : D) (S : Sto) : Option Bool := match x, y with
  | .int i, .int j => some (decide (i = j))
  | .non, .non => some true
  | .non, .int _ => some false
  | .int _, .non => some false
  | .bl a, .bl b => some (a == b)
  | .str a, .str b => some (decide (a = b))
  | x, y => match D.py (deref S x), D.py (deref S y) with
    | some p, some q => bif SeqAt.shaped p && SeqAt.shaped q then some (PyData.eqv p q) else none
    | _, _ => none
def oEq : Op2 := fun x y S => match eqB x y S with
  | some b => some (.bl b, S)
  | none => none
def oNe : Op2 := fun x y S => match eqB x y S with
  | some b => some (.bl (!b), S)
  | none => none
def oCmp (p : Int → Int → Bool) (q : List Int → List Int → Bool) : Op2 := fun x y S => match x, y with
  | .int i, .int j => some (.bl (p i j), S)
  | .tup a, .tup b => match intsD a, intsD b with
    | some ns, some ms => some (.bl (q ns ms), S)
    | _, _ => none
  | _, _ => none
def oCmpI (p : Int → Int → Bool) : Op2 := fun x y S => match x, y with
  | .int i, .int j => some (.bl (p i j), S)
  | _, _ => none
abbrev oLt : Op2 := oCmp (fun i j => decide (i < j)) HT.lexLt
abbrev oLe : Op2 := oCmpI fun i j => decide (i ≤ j)
abbrev oGt : Op2 := oCmpI fun i j => decide (j < i)
abbrev oGe : Op2 := oCmpI fun i j => decide (j ≤ i)
def isNon : D → Bool
  | .non => true
  | _ => false
def oIs : Op2 := fun x y S => match y with
  | .non => some (.bl (isNon x), S)
  | .bl b => match x with
    | .bl a => some (.bl (a == b), S)
    | _ => none
  | _ => none
def oIsN : Op2 := fun x y S => match y with
  | .non => some (.bl (!isNon x), S)
  | .bl b => match x with
    | .bl a => some (.bl (!(a == b)), S)
    | _ => none
  | _ => none
section
variable {X : Cx}
abbrev rEqR (K : PySem.W.Frag) : R2 := fun x y H Q => rEq x y H Q ∨ rEqD K x y H Q
abbrev rNeR (K : PySem.W.Frag) : R2 := fun x y H Q => rNe x y H Q ∨ rNeD K x y H Q
theorem opr_eq {k : Nat} (hr : Room k X.A) : OpR X (compareOp .Eq) (rEqR X.K) := op_eq.or (op_eqD hr.units)
theorem opr_ne {k : Nat} (hr : Room k X.A) : OpR X (compareOp .NotEq) (rNeR X.K) := op_ne.or (op_neD hr.units)
theorem eqB_ok {G : Pg} {B L ρ : List Addr} {S : Sto} {H : Hp} {d1 d2 : D} {x y : V} {b : Bool} (R : RH G B L ρ H S) (r1 : RV G.K B ρ H d1 x) (r2 : RV G.K B ρ H d2 y) (e : eqB d1 d2 S = some b) :
    (scal x y = true ∧ decide (x = y) = b) ∨ ∃ p q, Dp G.K H x p ∧ Dp G.K H y q ∧ SeqAt.shaped p = true ∧ SeqAt.shaped q = true ∧ PyData.eqv p q = b := by
  have gen : (match D.py (deref S d1), D.py (deref S d2) with
    | some p, some q => bif SeqAt.shaped p && SeqAt.shaped q then some (PyData.eqv p q) else none
    | _, _ => none) = some b → ∃ p q, Dp G.K H x p ∧ Dp G.K H y q ∧ SeqAt.shaped p = true ∧ SeqAt.shaped q = true ∧ PyData.eqv p q = b := by
    intro e
    cases e1 : D.py (deref S d1) with
    | none => rw [e1] at e; cases e
    | some p =>
      cases e2 : D.py (deref S d2) with
      | none => rw [e1, e2] at e; cases e
      | some q =>
        rw [e1, e2] at e
        simp only at e
        cases hf : (SeqAt.shaped p && SeqAt.shaped q) with
        | false => rw [hf] at e; cases e
        | true =>
          rw [hf] at e
          cases e
          rw [Bool.and_eq_true] at hf
          exact ⟨p, q, deref_ok R r1 e1, deref_ok R r2 e2, hf.1, hf.2, rfl⟩
  cases r1 with
  | int i =>
    cases r2 with
    | int j => cases e; exact .inl ⟨rfl, by simp⟩
    | non => cases e; exact .inl ⟨rfl, by simp⟩
    | _ => exact .inr (gen e)
  | non =>
    cases r2 with
    | int j => cases e; exact .inl ⟨rfl, by simp⟩
    | non => cases e; exact .inl ⟨rfl, by simp⟩
    | _ => exact .inr (gen e)
  | bl a =>
    cases r2 with
    | bl j => cases e; exact .inl ⟨rfl, by rw [dec_bl]⟩
    | _ => exact .inr (gen e)
  | str a =>
    cases r2 with
    | str j => cases e; exact .inl ⟨rfl, decide_eq_decide.mpr ⟨fun z => by cases z; rfl, fun z => by rw [z]⟩⟩
    | _ => exact .inr (gen e)
  | _ => exact .inr (gen e)
theorem ok_eq : Ok2 (pg X) (rEqR X.K) oEq := by
  intro B L ρ S S' H d1 d2 d' x y Q R r1 r2 e q
  unfold oEq at e
  cases h : eqB d1 d2 S with
  | none => rw [h] at e; cases e
  | some b =>
    rw [h] at e; cases e
    rcases eqB_ok R r1 r2 h with ⟨h1, h2⟩ | ⟨p, p', h1, h2, h3, h4, h5⟩
    · exact .inl ⟨h1, by rw [h2]; exact here q R (.bl _)⟩
    · exact .inr ⟨p, p', h1, h2, h3, h4, by rw [h5]; exact here q R (.bl _)⟩
theorem ok_ne : Ok2 (pg X) (rNeR X.K) oNe := by
  intro B L ρ S S' H d1 d2 d' x y Q R r1 r2 e q
  unfold oNe at e
  cases h : eqB d1 d2 S with
  | none => rw [h] at e; cases e
  | some b =>
    rw [h] at e; cases e
    rcases eqB_ok R r1 r2 h with ⟨h1, h2⟩ | ⟨p, p', h1, h2, h3, h4, h5⟩
    · exact .inl ⟨h1, by rw [h2]; exact here q R (.bl _)⟩
    · exact .inr ⟨p, p', h1, h2, h3, h4, by rw [h5]; exact here q R (.bl _)⟩
theorem ok_cmpI {p : Int → Int → Bool} : Ok2 (pg X) (rI0 fun i j => .bl (p i j)) (oCmpI p) := by
  intro B L ρ S S' H d1 d2 d' x y Q R r1 r2 e q
  cases r1 with
  | int i =>
    cases r2 with
    | int j => cases e; exact ⟨i, j, rfl, rfl, here q R (.bl _)⟩
    | _ => cases e
  | _ => cases e
abbrev rLtR (K : PySem.W.Frag) : R2 := fun x y H Q => rI0 (fun i j => .bl (decide (i < j))) x y H Q ∨ rLtT K x y H Q
theorem opr_lt {k : Nat} (hr : Room k X.A) : OpR X (compareOp .Lt) (rLtR X.K) := op_lt.or (op_ltT hr.units0)
theorem ok_lt : Ok2 (pg X) (rLtR X.K) oLt := by
  intro B L ρ S S' H d1 d2 d' x y Q R r1 r2 e q
  cases r1 with
  | int i =>
    cases r2 with
    | int j => cases e; exact .inl ⟨i, j, rfl, rfl, here q R (.bl _)⟩
    | _ => cases e
  | @tup a vs ds h1 h2 =>
    cases r2 with
    | @tup b ws es k1 k2 =>
      unfold oLt oCmp at e
      simp only at e
      cases e1 : intsD ds with
      | none => rw [e1] at e; cases e
      | some ns =>
        cases e2 : intsD es with
        | none => rw [e1, e2] at e; cases e
        | some ms =>
          rw [e1, e2] at e; cases e
          have z1 := intsD_ok h2 e1
          have z2 := intsD_ok k2 e2
          subst z1 z2
          exact .inr ⟨a, b, ns, ms, rfl, rfl, h1.sq, k1.sq, here q R (.bl _)⟩
    | _ => cases e
  | _ => cases e
abbrev rIsR : R2 := fun x y H Q => (y = .non ∧ Q (.bl (decide (x = .non))) H) ∨ rIsB x y H Q
abbrev rIsNR : R2 := fun x y H Q => (y = .non ∧ Q (.bl (!decide (x = .non))) H) ∨ rNotB x y H Q
theorem opr_is : OpR X (compareOp .Is) rIsR := op_isN.or op_isBl
theorem opr_isN : OpR X (compareOp .IsNot) rIsNR := op_notN.or op_notBl
theorem isNon_ok {K : PySem.W.Frag} {B ρ : List Addr} {H : Hp} {d : D} {x : V} (r : RV K B ρ H d x) : decide (x = .non) = isNon d := by
  cases r with
  | glob h => simp [isNon, h]
  | _ => simp [isNon]
theorem ok_is : Ok2 (pg X) rIsR oIs := by
  intro B L ρ S S' H d1 d2 d' x y Q R r1 r2 e q
  cases r2 with
  | non => cases e; exact .inl ⟨rfl, by rw [isNon_ok r1]; exact here q R (.bl _)⟩
  | bl b =>
    cases r1 with
    | bl a =>
      cases e
      refine .inr ⟨a, b, rfl, rfl, ?_⟩
      rw [← Bool.beq_eq_decide_eq]
      exact here q R (.bl _)
    | _ => cases e
  | _ => cases e
theorem ok_isN : Ok2 (pg X) rIsNR oIsN := by
  intro B L ρ S S' H d1 d2 d' x y Q R r1 r2 e q
  cases r2 with
  | non => cases e; exact .inl ⟨rfl, by rw [isNon_ok r1]; exact here q R (.bl _)⟩
  | bl b =>
    cases r1 with
    | bl a =>
      cases e
      refine .inr ⟨a, b, rfl, rfl, ?_⟩
      rw [← Bool.beq_eq_decide_eq]
      exact here q R (.bl _)
    | _ => cases e
  | _ => cases e
end
end Sf
end

section
set_option Elab.async false
set_option maxRecDepth 100000
set_option linter.all false
/-! Sf4: items, slices, built-in functions, methods. -/
namespace Sf
open PySem PySem.Spec PyProof.Rows L2

/-! ### items -/
def ixD (l : List D) (i : Int) : Option D := bif decide (0 ≤ i) then l[i.toNat]? else bif decide (-(l.length : Int) ≤ i) then l[(i + l.length).toNat]? else none
def oIx : Op2 := fun x y S => match y with
  | .int i => match x with
    | .tup l => match ixD l i with
      | some d => some (d, S)
      | none => none
    | x => match lsR x S with
      | some l => match ixD l i with
        | some d => some (d, S)
        | none => none
      | none => none
  | _ => none
section
variable {X : Cx} {G : Pg} {B L ρ : List Addr} {S S' : Sto} {H : Hp} {d d' : D} {x : V} {l : List D} {vs : List V} {Q : VK}
theorem ixD_ok {i : Int} (r : RVs G.K B ρ H l vs) (e : ixD l i = some d) : ∃ v, atI vs i = some v ∧ RV G.K B ρ H d v := by
  unfold ixD at e
  unfold atI ixN
  rw [← r.length]
  by_cases h0 : 0 ≤ i
  · rw [decide_eq_true h0] at e
    obtain ⟨v, e1, r1⟩ := r.get (show l[i.toNat]? = some d from e)
    have hlt : i.toNat < l.length := (List.getElem?_eq_some_iff.mp (show l[i.toNat]? = some d from e)).1
    refine ⟨v, ?_, r1⟩
    rw [if_pos h0, if_pos (by omega)]
    exact e1
  · rw [decide_eq_false h0] at e
    by_cases h1 : -(l.length : Int) ≤ i
    · rw [decide_eq_true h1] at e
      obtain ⟨v, e1, r1⟩ := r.get (show l[(i + l.length).toNat]? = some d from e)
      refine ⟨v, ?_, r1⟩
      rw [if_neg h0, if_pos h1]
      exact e1
    · rw [decide_eq_false h1] at e; cases e
abbrev rIxR (K : PySem.W.Frag) : R2 := fun x y H Q => rIxL K x y H Q ∨ rIxT K x y H Q
theorem ixr : IxR X (rIxR X.K) := ix_list.or ix_tup
theorem ok_ix : Ok2 (pg X) (rIxR X.K) oIx := by
  intro B L ρ S S' H d1 d2 d' x y Q R r1 r2 e q
  cases r2 with
  | int i =>
    have gen : (match lsR d1 S with
      | some l => match ixD l i with
        | some d => some (d, S)
        | none => none
      | none => none) = some (d', S') → rIxR X.K x (.int i) H Q := by
      intro e
      cases e1 : lsR d1 S with
      | none => rw [e1] at e; cases e
      | some l =>
        rw [e1] at e
        simp only at e
        cases e2 : ixD l i with
        | none => rw [e2] at e; cases e
        | some d =>
          rw [e2] at e; cases e
          obtain ⟨a, vs, rfl, h1, h2⟩ := lsR_ok R r1 e1
          obtain ⟨v, e3, r3⟩ := ixD_ok (G := pg X) h2 e2
          exact .inl ⟨a, vs, i, v, rfl, rfl, h1, e3, here q R r3⟩
    cases r1 with
    | @tup a vs ds h1 h2 =>
      unfold oIx at e
      simp only at e
      cases e2 : ixD ds i with
      | none => rw [e2] at e; cases e
      | some d =>
        rw [e2] at e; cases e
        obtain ⟨v, e3, r3⟩ := ixD_ok (G := pg X) h2 e2
        exact .inr ⟨a, vs, i, v, rfl, rfl, h1.sq, e3, here q R r3⟩
    | _ => exact gen e
  | _ => cases e
/-- the same by a bare getItem, of a list -/
theorem pget_list : PGet X (rIxL X.K) := by
  intro pins s σ H o i ov iv Q I ro ri h
  obtain ⟨p, xs, k, z, rfl, rfl, hq, he, q⟩ := h
  cases ro
  obtain ⟨t, rfl⟩ := ri
  obtain ⟨its, r, pl, hz⟩ := I.list hq
  obtain ⟨j, h1, h2, h3, h4, h5⟩ := atI_get he
  obtain ⟨w, ew, rw'⟩ := r.get h2
  have hl := r.length
  have hn := line63
  have fin : EP X pins σ Q w s := ⟨z, H, I, rw', q⟩
  by_cases h0 : 0 ≤ k
  · have hj : k.toNat = j := by
      rw [seqIndex_of h0 h5] at h1
      exact Option.some.inj h1
    exact wpAny_getItem_list (x := w) pl.isList h0 (by omega) (by rw [hj]; simpa using ew) fin
  · have hj : (k + (its.toArray.size : Int)).toNat = j := by
      rw [seqIndex_neg (by omega) h4] at h1
      rw [List.size_toArray, ← hl]
      exact Option.some.inj h1
    exact wpAny_getItem_list_neg pl.isList (by omega) (by rw [List.size_toArray] <;> omega) (by omega) (by rw [hj]; simpa using ew) fin
end

/-! ### slices -/
def cutD (l : List D) (lo hi : Option Int) : List D := (l.drop (HT.sIx l.length 0 lo)).take (HT.sIx l.length l.length hi - HT.sIx l.length 0 lo)
theorem cutD_ok {K : PySem.W.Frag} {B ρ : List Addr} {H : Hp} {l : List D} {vs : List V} (r : RVs K B ρ H l vs) (lo hi : Option Int) : RVs K B ρ H (cutD l lo hi) (cutV vs lo hi) := by
  unfold cutD cutV
  rw [← r.length]
  exact (r.drop _).take _
abbrev FO := En → Sto → Out (Option Int)
def fNoPart : FO := fun _ S => .ok none S
def fPart (f : FE) : FO := fun env S => (f env S).bind fun x S1 => match x with
  | .int i => .ok (some i) S1
  | _ => .bad
abbrev rO : List Addr → Hp → Option Int → Option Int → Prop := fun _ _ a b => a = b
def tO (G : Pg) (W : WX) (xm : XM) (f : FO) : TO := fun σ H Q => ∃ B L ρ S env, At G B L ρ S env σ H ∧ GO G W xm B L ρ H σ rO (f env S) Q
theorem PO.imp {X : Cx} {e : Option Expr} {t t' : TO} (h : PO X e t) (i : ∀ σ H Q, t' σ H Q → t σ H Q) : PO X e t' := ⟨fun pins s σ H Q I q => h.run pins s σ H Q I (i σ H Q q)⟩
abbrev SO' (X : Cx) (w : Wx) (e : Option Expr) (f : FO) : Prop := PO X e (tO (pg X) w.W w.xm f)
section
variable {X : Cx} {w : Wx} {e : Expr} {fe : FE}
theorem so_none : SO' X w none fNoPart := PO.imp po_none fun σ H Q ⟨B, L, ρ, S, env, A, g⟩ => GO.ok0 g A rfl
theorem so_some (h : SE X w e fe) : SO' X w (some e) (fPart fe) := PO.imp (po_some h) fun σ H Q ⟨B, L, ρ, S, env, A, gg⟩ =>
  tE_mono (tE_bind (rel := fun _ => rO) A gg) fun x H1 ⟨B, L, ρ, S, d, A, r, g⟩ => by
    cases r with
    | int i => exact ⟨i, rfl, GO.ok0 g A rfl⟩
    | _ => exact g.elim
end
def wholeB (n : Nat) (lo hi : Option Int) : Bool := Nat.beq (HT.sIx n 0 lo) 0 && Nat.beq (HT.sIx n n hi) n
def oCut (m : Bool) (x : D) (lo hi : Option Int) (S : Sto) : Option (D × Sto) := match x with
  | .tup l => some (.tup (cutD l lo hi), S)
  | x => match lsR x S with
    | some l => mkL m (cutD l lo hi) S
    | none => none
def fCut (m : Bool) (a : FE) (lo hi : FO) : FE := fun env S => (a env S).bind fun x S1 => (lo env S1).bind fun l S2 => (hi env S2).bind fun u S3 => outO (oCut m x l u S3)
section
variable {X : Cx} {w : Wx} {e : Expr} {lo hi : Option Expr} {fe : FE} {fl fh : FO} {p2 pos : Pos}
theorem cutD_whole {l : List D} {lo hi : Option Int} (h : HT.sIx l.length 0 lo = 0 ∧ HT.sIx l.length l.length hi = l.length) : cutD l lo hi = l := by
  unfold cutD; rw [h.1, h.2]; simp
theorem se_cut {m : Bool} (he : SE X w e fe) (hl : SO' X w lo fl) (hh : SO' X w hi fh) : SE X w (.Subscript e (.Slice lo hi none p2) pos) (fCut m fe fl fh) := by
  refine PE.imp (pe_slice (sl_tupA.or sl_list) he hl hh) fun σ H Q ⟨B, L, ρ, S, env, A, gg⟩ => ?_
  refine ⟨B, L, ρ, S, env, A, ?_⟩
  revert gg
  unfold fCut
  cases fe env S with
  | ok d S' =>
    intro g v ρ' H' p R r
    have g' := GO.step g p
    refine ⟨B, L, ρ', S', env, A.step p R, ?_⟩
    revert g'
    show GO (pg X) w.W w.xm B L ρ' H' σ (rD (pg X) B) ((fl env S').bind fun l S2 => (fh env S2).bind fun u S3 => outO (oCut m d l u S3)) Q → _
    cases fl env S' with
    | ok d' S2 =>
      intro g' v2 ρ2 H2 p2 R2 r2
      have g2 := GO.step g' p2
      cases r2
      refine ⟨B, L, ρ2, S2, env, (A.step p R).step p2 R2, ?_⟩
      revert g2
      show GO (pg X) w.W w.xm B L ρ2 H2 σ (rD (pg X) B) ((fh env S2).bind fun u S3 => outO (oCut m d d' u S3)) Q → _
      cases fh env S2 with
      | ok u S3 =>
        intro g2 v3 ρ3 H3 p3 R3 r3
        have g3 := GO.step g2 p3
        cases r3
        obtain ⟨d'', S'', e, q⟩ := GO.outO g3
        have r' : RV X.K B ρ3 H3 d v := (r.mono p2).mono p3
        have gen : (match lsR d S3 with
          | some l => mkL m (cutD l d' u) S3
          | none => none) = some (d'', S'') → rSlA X.K v d' u H3 Q ∨ rSlL X.K v d' u H3 Q := by
          intro e
          cases e1 : lsR d S3 with
          | none => rw [e1] at e; cases e
          | some l =>
            rw [e1] at e
            obtain ⟨a, vs, rfl, h1, h2⟩ := lsR_ok (G := pg X) R3 r' e1
            exact .inr ⟨a, vs, rfl, h1, (mkL_ok R3 (cutD_ok h2 d' u) e q).2⟩
        cases r' with
        | @tup a vs ds h1 h2 =>
          cases e
          refine .inl ⟨a, vs, rfl, h1.sq, fun z => ?_, fun _ => mkT_ok R3 (cutD_ok h2 _ _) q⟩
          rw [← h2.length] at z
          rw [cutD_whole z] at q
          exact here (G := pg X) q R3 (.tup h1 h2)
        | _ => exact gen e
      | exc c S' => exact fun g => g
      | bad => exact fun g => g
    | exc c S' => exact fun g => g
    | bad => exact fun g => g
  | exc c S' => exact fun g => g
  | bad => exact fun g => g
/-- xs[::-1] of a list -/
def oRev (m : Bool) : Op1 := fun x S => match lsR x S with
  | some l => mkL m l.reverse S
  | none => none
theorem se_rev {m : Bool} {k : Nat} {p1 p2 p3 : Pos} (he : SE X w e fe) : SE X w (.Subscript e (.Slice none none (some (.UnaryOp .USub (.Constant (.int 1) k p1) p2)) p3) pos) (fOp1 (oRev m) fe) :=
  PE.imp (pe_revL he) fun σ H Q ⟨B, L, ρ, S, env, A, gg⟩ => go_op1 (X := X) (r := fun x H1 Q => ∃ a xs, x = .ref a ∧ SqL X.K H1 a xs ∧ ∀ p, H1 p = none → Q (.ref p) (upd H1 p (.lst xs.reverse))) (fun B L ρ S S' H d d' x Q R r e q => by
    unfold oRev at e
    cases e1 : lsR d S with
    | none => rw [e1] at e; cases e
    | some l =>
      rw [e1] at e
      obtain ⟨a, vs, rfl, h1, h2⟩ := lsR_ok (G := pg X) R r e1
      exact ⟨a, vs, rfl, h1, (mkL_ok R h2.reverse e q).2⟩) A gg
end

/-! ### built-in functions -/
def oLen : OpN := fun xs S => match xs with
  | [.tup l] => some (.int l.length, S)
  | [.str x] => bif fit x.length then some (.int x.length, S) else none
  | [x] => match lsR x S with
    | some l => some (.int l.length, S)
    | none => none
  | _ => none
def oAbs : OpN := fun xs S => match xs with
  | [.int i] => some (.int (if i < 0 then -i else i), S)
  | _ => none
def oMax2 : OpN := fun xs S => match xs with
  | [.int i, .int j] => some (.int (if j > i then j else i), S)
  | _ => none
def oMax : OpN := fun xs S => match xs with
  | [.tup l] => match intsD l with
    | some (n :: ns) => some (.int (ns.foldl max n), S)
    | _ => none
  | [x] => match lsR x S with
    | some l => match intsD l with
      | some (n :: ns) => some (.int (ns.foldl max n), S)
      | _ => none
    | none => none
  | _ => none
def oMin2 : OpN := fun xs S => match xs with
  | [.int i, .int j] => some (.int (if j < i then j else i), S)
  | _ => none
def oMin : OpN := fun xs S => match xs with
  | [.tup l] => match intsD l with
    | some (n :: ns) => some (.int (ns.foldl min n), S)
    | _ => none
  | [x] => match lsR x S with
    | some l => match intsD l with
      | some (n :: ns) => some (.int (ns.foldl min n), S)
      | _ => none
    | none => none
  | _ => none
def oSum : OpN := fun xs S => match xs with
  | [.tup l] => match intsD l with
    | some ns => some (.int ns.sum, S)
    | _ => none
  | [x] => match lsR x S with
    | some l => match intsD l with
      | some ns => some (.int ns.sum, S)
      | _ => none
    | none => none
  | _ => none
def oAll : OpN := fun xs S => match xs with
  | [x] => match lsR x S with
    | some l => match blsD l with
      | some bs => some (.bl (bs.all id), S)
      | none => none
    | none => none
  | _ => none
def oAny : OpN := fun xs S => match xs with
  | [x] => match lsR x S with
    | some l => match blsD l with
      | some bs => some (.bl (bs.any id), S)
      | none => none
    | none => none
  | _ => none
def oList (m : Bool) : OpN := fun xs S => match xs with
  | [.tup l] => mkL m l S
  | [x] => match lsR x S with
    | some l => mkL m l S
    | none => none
  | _ => none
def oTuple : OpN := fun xs S => match xs with
  | [.tup l] => some (.tup l, S)
  | [x] => match lsR x S with
    | some l => some (.tup l, S)
    | none => none
  | _ => none
/-- a value's type among the built-in ones -/
def tyD (S : Sto) : D → Option String
  | .non => some "NoneType"
  | .bl _ => some "bool"
  | .int _ => some "int"
  | .str _ => some "str"
  | .tup _ => some "tuple"
  | .lst _ => some "list"
  | .loc n => match S[n]? with
    | some (.lst _) => some "list"
    | some (.dki false _) => some "dict"
    | _ => none
  | _ => none
def isaB (a b : String) : Option Bool := match a, b with
  | "bool", "int" => some true
  | "bool", "bool" => some true
  | "int", "int" => some true
  | "str", "str" => some true
  | "tuple", "tuple" => some true
  | "list", "list" => some true
  | "NoneType", "int" => some false | "NoneType", "bool" => some false | "NoneType", "tuple" => some false | "NoneType", "list" => some false | "NoneType", "str" => some false
  | "bool", "tuple" => some false | "bool", "list" => some false | "bool", "str" => some false
  | "int", "bool" => some false | "int", "tuple" => some false | "int", "list" => some false | "int", "str" => some false
  | "str", "int" => some false | "str", "bool" => some false | "str", "tuple" => some false | "str", "list" => some false
  | "tuple", "int" => some false | "tuple", "bool" => some false | "tuple", "list" => some false | "tuple", "str" => some false
  | "list", "int" => some false | "list", "bool" => some false | "list", "tuple" => some false | "list", "str" => some false
  | "dict", "int" => some false | "dict", "bool" => some false | "dict", "tuple" => some false | "dict", "list" => some false | "dict", "str" => some false
  | _, _ => none
def isaAny (a : String) : List D → Option Bool
  | [.glob (.ty n), .glob (.ty m)] => match isaB a n, isaB a m with
    | some b, some c => some (b || c)
    | _, _ => none
  | _ => none
def oIsa : OpN := fun xs S => match xs with
  | [x, .glob (.ty n)] => match tyD S x with
    | some t => match isaB t n with
      | some b => some (.bl b, S)
      | none => none
    | none => none
  | [x, .tup cs] => match tyD S x with
    | some t => match isaAny t cs with
      | some b => some (.bl b, S)
      | none => none
    | none => none
  | _ => none
theorem isaB_ok {a b : String} {r : Bool} (h : isaB a b = some r) : kitB a b = some r := by
  unfold isaB at h
  split at h <;> first | (cases h; decide +kernel) | cases h
section
variable {X : Cx} {K : PySem.W.Frag} {B L ρ : List Addr} {S S' : Sto} {H : Hp}
theorem rvs1 {d : D} {xs : List V} (r : RVs K B ρ H [d] xs) : ∃ x, xs = [x] ∧ RV K B ρ H d x := by
  cases r with
  | cons r t => cases t; exact ⟨_, rfl, r⟩
theorem rvs2 {d d' : D} {xs : List V} (r : RVs K B ρ H [d, d'] xs) : ∃ x y, xs = [x, y] ∧ RV K B ρ H d x ∧ RV K B ρ H d' y := by
  cases r with
  | cons r t =>
    cases t with
    | cons r' t => cases t; exact ⟨_, _, rfl, r, r'⟩
theorem lsR_seq {G : Pg} {d : D} {x : V} {l : List D} (R : RH G B L ρ H S) (r : RV G.K B ρ H d x) (e : lsR d S = some l) : ∃ a vs, x = .ref a ∧ SqL G.K H a vs ∧ RVs G.K B ρ H l vs := lsR_ok R r e
theorem ok_len : OkN (pg X) (fun xs H Q => ∃ x n, xs = [x] ∧ LenV X.K x H n ∧ Q (.int n) H) oLen := by
  intro B L ρ S S' H ds d' xs Q R rs e q
  match ds, e with
  | [d], e =>
    obtain ⟨x, rfl, r⟩ := rvs1 rs
    have gen : (match lsR d S with
      | some l => some (D.int l.length, S)
      | none => none) = some (d', S') → ∃ x' n, [x] = [x'] ∧ LenV X.K x' H n ∧ Q (.int n) H := by
      intro e
      cases e1 : lsR d S with
      | none => rw [e1] at e; cases e
      | some l =>
        rw [e1] at e; cases e
        obtain ⟨a, vs, rfl, h1, h2⟩ := lsR_ok (G := pg X) R r e1
        exact ⟨_, vs.length, rfl, .inl ⟨vs, h1, rfl⟩, by rw [← h2.length]; exact here (G := pg X) q R (.int _)⟩
    cases r with
    | @tup a vs ds h1 h2 => cases e; exact ⟨_, vs.length, rfl, .inr ⟨vs, h1.sq, rfl⟩, by rw [← h2.length]; exact here (G := pg X) q R (.int _)⟩
    | str y =>
      unfold oLen at e
      simp only at e
      cases hf : fit y.length with
      | false => rw [hf] at e; cases e
      | true => rw [hf] at e; cases e; exact ⟨_, y.length, rfl, ⟨fit_le hf, rfl⟩, here (G := pg X) q R (.int _)⟩
    | _ => exact gen e
  | d :: _ :: _, e => cases d <;> cases e
theorem ok_abs : OkN (pg X) (fun xs H Q => ∃ i, xs = [.int i] ∧ Q (.int (if i < 0 then -i else i)) H) oAbs := by
  intro B L ρ S S' H ds d' xs Q R rs e q
  match ds, e with
  | [.int i], e =>
    obtain ⟨x, rfl, r⟩ := rvs1 rs
    cases r; cases e
    exact ⟨i, rfl, here (G := pg X) q R (.int _)⟩
theorem ok_all : OkN (pg X) (rAll X.K) oAll := by
  intro B L ρ S S' H ds d' xs Q R rs e q
  match ds, e with
  | [d], e =>
    obtain ⟨x, rfl, r⟩ := rvs1 rs
    unfold oAll at e
    simp only at e
    cases e1 : lsR d S with
    | none => rw [e1] at e; cases e
    | some l =>
      rw [e1] at e
      simp only at e
      cases e2 : blsD l with
      | none => rw [e2] at e; cases e
      | some bs =>
        rw [e2] at e; cases e
        obtain ⟨a, vs, rfl, h1, h2⟩ := lsR_ok (G := pg X) R r e1
        obtain rfl := blsD_ok (G := pg X) h2 e2
        exact ⟨a, bs, rfl, h1, here (G := pg X) q R (.bl _)⟩
theorem ok_any : OkN (pg X) (rAny X.K) oAny := by
  intro B L ρ S S' H ds d' xs Q R rs e q
  match ds, e with
  | [d], e =>
    obtain ⟨x, rfl, r⟩ := rvs1 rs
    unfold oAny at e
    simp only at e
    cases e1 : lsR d S with
    | none => rw [e1] at e; cases e
    | some l =>
      rw [e1] at e
      simp only at e
      cases e2 : blsD l with
      | none => rw [e2] at e; cases e
      | some bs =>
        rw [e2] at e; cases e
        obtain ⟨a, vs, rfl, h1, h2⟩ := lsR_ok (G := pg X) R r e1
        obtain rfl := blsD_ok (G := pg X) h2 e2
        exact ⟨a, bs, rfl, h1, here (G := pg X) q R (.bl _)⟩
theorem ok_list {m : Bool} : OkN (pg X) (fun xs H Q => ∃ p ys, xs = [.ref p] ∧ (SqL X.K H p ys ∨ SqT X.K H p ys) ∧ ∀ l, H l = none → Q (.ref l) (upd H l (.lst ys))) (oList m) := by
  intro B L ρ S S' H ds d' xs Q R rs e q
  match ds, e with
  | [d], e =>
    obtain ⟨x, rfl, r⟩ := rvs1 rs
    have gen : (match lsR d S with
      | some l => mkL m l S
      | none => none) = some (d', S') → ∃ p ys, [x] = [.ref p] ∧ (SqL X.K H p ys ∨ SqT X.K H p ys) ∧ ∀ l, H l = none → Q (.ref l) (upd H l (.lst ys)) := by
      intro e
      cases e1 : lsR d S with
      | none => rw [e1] at e; cases e
      | some l =>
        rw [e1] at e
        obtain ⟨a, vs, rfl, h1, h2⟩ := lsR_ok (G := pg X) R r e1
        exact ⟨a, vs, rfl, .inl h1, (mkL_ok R h2 e q).2⟩
    cases r with
    | @tup a vs ds h1 h2 => exact ⟨a, vs, rfl, .inr h1.sq, (mkL_ok R h2 e q).2⟩
    | _ => exact gen e
  | d :: _ :: _, e => cases d <;> cases e
theorem ok_tuple : OkN (pg X) (fun xs H Q => ∃ p ys, xs = [.ref p] ∧ ((SqL X.K H p ys ∧ ∀ l, H l = none → Q (.ref l) (upd H l (.tup ys))) ∨ (SqT X.K H p ys ∧ Q (.ref p) H))) oTuple := by
  intro B L ρ S S' H ds d' xs Q R rs e q
  match ds, e with
  | [d], e =>
    obtain ⟨x, rfl, r⟩ := rvs1 rs
    have gen : (match lsR d S with
      | some l => some (D.tup l, S)
      | none => none) = some (d', S') → ∃ p ys, [x] = [.ref p] ∧ ((SqL X.K H p ys ∧ ∀ l, H l = none → Q (.ref l) (upd H l (.tup ys))) ∨ (SqT X.K H p ys ∧ Q (.ref p) H)) := by
      intro e
      cases e1 : lsR d S with
      | none => rw [e1] at e; cases e
      | some l =>
        rw [e1] at e; cases e
        obtain ⟨a, vs, rfl, h1, h2⟩ := lsR_ok (G := pg X) R r e1
        exact ⟨a, vs, rfl, .inl ⟨h1, mkT_ok R h2 q⟩⟩
    cases r with
    | @tup a vs ds h1 h2 => cases e; exact ⟨a, vs, rfl, .inr ⟨h1.sq, here (G := pg X) q R (.tup h1 h2)⟩⟩
    | _ => exact gen e
  | d :: _ :: _, e => cases d <;> cases e
theorem tyD_ok {G : Pg} {d : D} {x : V} {t : String} (R : RH G B L ρ H S) (r : RV G.K B ρ H d x) (e : tyD S d = some t) : TyX G.K H x (.type t) := by
  cases r with
  | non => cases e; exact .base .non
  | bl b => cases e; exact .base (.bl b)
  | int i => cases e; exact .base (.int i)
  | str y => cases e; exact .base (.str y)
  | tup h1 h2 => cases e; exact .base (.tup h1.2.2)
  | lst h1 h2 h3 h4 => cases e; exact .base (.lst h3)
  | @loc n a h =>
    unfold tyD at e
    simp only at e
    cases q : S[n]? with
    | none => rw [q] at e; cases e
    | some o =>
      rw [q] at e
      cases o with
      | lst ds => cases e; obtain ⟨vs, h1, h2⟩ := R.ob n a _ h q; exact .base (.lst h1)
      | dki lk kvs =>
        cases lk with
        | true => cases e
        | false => cases e; obtain ⟨ents, h1, h2⟩ := R.ob n a _ h q; exact .base (.dK h1)
      | _ => cases e
  | _ => cases e
theorem isaAny_ok {t : String} {cs : List D} {vs : List V} {b : Bool} (r : RVs K B ρ H cs vs) (e : isaAny t cs = some b) : ∃ us, Paired ClsV vs us ∧ PySem.W.kitAny K (.type t) us = some b := by
  match cs, e with
  | [.glob (.ty n), .glob (.ty m)], e =>
    obtain ⟨x, y, rfl, r1, r2⟩ := rvs2 r
    cases r1; cases r2
    unfold isaAny at e
    simp only at e
    cases e1 : isaB t n with
    | none => rw [e1] at e; cases e
    | some b' =>
      cases e2 : isaB t m with
      | none => rw [e1, e2] at e; cases e
      | some c =>
        rw [e1, e2] at e; cases e
        refine ⟨[.type n, .type m], .cons (.ty n) (.cons (.ty m) .nil), ?_⟩
        refine kitAny_cons (kit_ty (isaB_ok e1)) (fun z => ?_) (fun z => by rw [z]; rfl)
        subst z
        refine kitAny_cons (kit_ty (isaB_ok e2)) (fun z => ?_) (fun z => by rw [z]; rfl)
        subst z; rfl
abbrev rIsaR (K : PySem.W.Frag) : List V → Hp → VK → Prop := fun xs H Q => rIsi K xs H Q ∨ rIsiT K xs H Q
theorem callr_isa : CallR X (.builtin "isinstance") (rIsaR X.K) := call_isi.or call_isiT
theorem ok_isa : OkN (pg X) (rIsaR X.K) oIsa := by
  intro B L ρ S S' H ds d' xs Q R rs e q
  match ds, e with
  | [d, .glob (.ty n)], e =>
    obtain ⟨x, y, rfl, r1, r2⟩ := rvs2 rs
    cases r2
    unfold oIsa at e
    simp only at e
    cases e1 : tyD S d with
    | none => rw [e1] at e; cases e
    | some t =>
      rw [e1] at e
      simp only at e
      cases e2 : isaB t n with
      | none => rw [e2] at e; cases e
      | some b =>
        rw [e2] at e; cases e
        exact .inl ⟨x, _, .type t, .type n, b, rfl, .ty n, tyD_ok (G := pg X) R r1 e1, kit_ty (isaB_ok e2), here (G := pg X) q R (.bl _)⟩
  | [d, .tup cs], e =>
    obtain ⟨x, y, rfl, r1, r2⟩ := rvs2 rs
    cases r2 with
    | @tup a vs _ h1 h2 =>
    unfold oIsa at e
    simp only at e
    cases e1 : tyD S d with
    | none => rw [e1] at e; cases e
    | some t =>
      rw [e1] at e
      simp only at e
      cases e2 : isaAny t cs with
      | none => rw [e2] at e; cases e
      | some b =>
        rw [e2] at e; cases e
        obtain ⟨us, k1, k2⟩ := isaAny_ok h2 e2
        exact .inr ⟨x, a, vs, .type t, us, b, rfl, h1.2.2, k1, tyD_ok (G := pg X) R r1 e1, k2, here (G := pg X) q R (.bl _)⟩
/-! ### max, min, sum: two ints; a list, a tuple of ints -/
theorem foldl_max_mem : ∀ (ns : List Int) (n : Int), (ns.foldl max n = n ∨ ns.foldl max n ∈ ns) ∧ n ≤ ns.foldl max n ∧ ∀ y, y ∈ ns → y ≤ ns.foldl max n
  | [], n => ⟨.inl rfl, Int.le_refl _, fun _ h => nomatch h⟩
  | k :: r, n => by
    obtain ⟨h1, h2, h3⟩ := foldl_max_mem r (max n k)
    rw [List.foldl_cons]
    refine ⟨?_, by omega, fun y hy => ?_⟩
    · rcases h1 with h1 | h1
      · rw [h1]
        by_cases z : n ≤ k
        · right; rw [Int.max_eq_right z]; exact List.mem_cons_self
        · left; exact Int.max_eq_left (by omega)
      · exact .inr (List.mem_cons_of_mem _ h1)
    · rcases List.mem_cons.mp hy with rfl | hy
      · omega
      · exact h3 y hy
theorem foldl_min_mem : ∀ (ns : List Int) (n : Int), (ns.foldl min n = n ∨ ns.foldl min n ∈ ns) ∧ ns.foldl min n ≤ n ∧ ∀ y, y ∈ ns → ns.foldl min n ≤ y
  | [], n => ⟨.inl rfl, Int.le_refl _, fun _ h => nomatch h⟩
  | k :: r, n => by
    obtain ⟨h1, h2, h3⟩ := foldl_min_mem r (min n k)
    rw [List.foldl_cons]
    refine ⟨?_, by omega, fun y hy => ?_⟩
    · rcases h1 with h1 | h1
      · rw [h1]
        by_cases z : n ≤ k
        · left; exact Int.min_eq_left z
        · right; rw [Int.min_eq_right (by omega)]; exact List.mem_cons_self
      · exact .inr (List.mem_cons_of_mem _ h1)
    · rcases List.mem_cons.mp hy with rfl | hy
      · omega
      · exact h3 y hy
theorem readsInts {h : Heap} : ∀ {ns : List Int} {us : List Value}, Vals (ns.map V.int) us → ∃ as, ReadsAll h us (ns.map PyData.int) as
  | [], _, .nil => ⟨_, ReadsAll.nil⟩
  | n :: ns, _, .cons r t => by
    obtain ⟨tk, rfl⟩ := r
    obtain ⟨as, q⟩ := readsInts t
    exact ⟨_, ReadsAll.cons (Reads.int n tk) q⟩
theorem alikeInts (ns : List Int) : PySem.W.AlikeAll (ns.map PyData.int) := by
  refine ⟨fun x hx y hy => ?_, fun x hx => ?_⟩
  · obtain ⟨i, _, rfl⟩ := List.mem_map.mp hx
    obtain ⟨j, _, rfl⟩ := List.mem_map.mp hy
    rfl
  · obtain ⟨i, _, rfl⟩ := List.mem_map.mp hx
    exact fun z => nomatch z
theorem depthInts : ∀ ns : List Int, PyData.depthAll (ns.map PyData.int) = 0
  | [] => rfl
  | n :: ns => by rw [List.map_cons, PyData.depthAll, depthInts ns]; rfl
def rTupF (K : PySem.W.Frag) (f : Int → List Int → Int) : List V → Hp → VK → Prop := fun xs H Q => ∃ (a : Addr) (n : Int) (ns : List Int), xs = [.ref a] ∧ SqT K H a ((n :: ns).map V.int) ∧ Q (.int (f n ns)) H
theorem cr_maxT {k : Nat} (hc : X.calm = true) (hr : Room k X.A) : CallR X (.builtin "max") (rTupF X.K fun n ns => ns.foldl max n) := by
  intro pins s σ H vs us Q I r h
  obtain ⟨a, n, ns, rfl, hs, q⟩ := h
  obtain ⟨its, rv, ht, _⟩ := I.tuple hs
  rw [Vals.ref1 r]
  obtain ⟨as, hra⟩ := readsInts (h := s.heap) rv
  have hu := hr.units
  refine PySem.W.max_tuple_data (I.ok.hd hc) (show s.heap.IsTuple a its.toArray from ht) (x := .int n) (xs := ns.map .int) (as := as) (by simpa using hra) (by simpa using alikeInts (n :: ns)) (by rw [show (PyData.int n :: ns.map PyData.int) = (n :: ns).map PyData.int from rfl, depthInts]; omega) fun i v h' tk bs hv hread hk => ?_
  rw [PySem.W.maxD_ints] at hread
  cases hread
  exact ⟨.int _, H, I.kept hk, ⟨_, rfl⟩, q⟩
theorem cr_minT {k : Nat} (hc : X.calm = true) (hr : Room k X.A) : CallR X (.builtin "min") (rTupF X.K fun n ns => ns.foldl min n) := by
  intro pins s σ H vs us Q I r h
  obtain ⟨a, n, ns, rfl, hs, q⟩ := h
  obtain ⟨its, rv, ht, _⟩ := I.tuple hs
  rw [Vals.ref1 r]
  obtain ⟨as, hra⟩ := readsInts (h := s.heap) rv
  have hu := hr.units
  refine PySem.W.min_tuple_data (I.ok.hd hc) (show s.heap.IsTuple a its.toArray from ht) (x := .int n) (xs := ns.map .int) (as := as) (by simpa using hra) (by simpa using alikeInts (n :: ns)) (by rw [show (PyData.int n :: ns.map PyData.int) = (n :: ns).map PyData.int from rfl, depthInts]; omega) fun i v h' tk bs hv hread hk => ?_
  rw [PySem.W.minD_ints] at hread
  cases hread
  exact ⟨.int _, H, I.kept hk, ⟨_, rfl⟩, q⟩
def rSumT (K : PySem.W.Frag) : List V → Hp → VK → Prop := fun xs H Q => ∃ (a : Addr) (ns : List Int), xs = [.ref a] ∧ SqT K H a (ns.map V.int) ∧ Q (.int ns.sum) H
theorem cr_sumT (hc : X.calm = true) : CallR X (.builtin "sum") (rSumT X.K) := by
  intro pins s σ H vs us Q I r h
  obtain ⟨a, ns, rfl, hs, q⟩ := h
  obtain ⟨its, rv, ht, _⟩ := I.tuple hs
  rw [Vals.ref1 r]
  have hi := rv.ints
  obtain ⟨xs, hx⟩ := hi.allInts.items
  have hl : s.heap.IsTuple a its.toArray := ht
  have hn : numsOf its.toArray.toList = ns := by rw [show its.toArray.toList = its from rfl, hi.numsOf]
  rw [hx] at hl hn
  rw [nums_intItems] at hn
  refine PySem.W.ktm_sumG (I.ok.hd hc) hl fun h' tk t' hk => ?_
  rw [preSum_eq, List.take_of_length_le (by simp), hn]
  exact ⟨.int _, H, I.kept hk, ⟨_, rfl⟩, q⟩
abbrev rMaxR (K : PySem.W.Frag) : List V → Hp → VK → Prop := fun xs H Q => rMax K xs H Q ∨ rTupF K (fun n ns => ns.foldl max n) xs H Q
abbrev rMinR (K : PySem.W.Frag) : List V → Hp → VK → Prop := fun xs H Q => rMin K xs H Q ∨ rTupF K (fun n ns => ns.foldl min n) xs H Q
abbrev rSumR (K : PySem.W.Frag) : List V → Hp → VK → Prop := fun xs H Q => rSum K xs H Q ∨ rSumT K xs H Q
theorem callr_max {k : Nat} (hc : X.calm = true) (hr : Room k X.A) : CallR X (.builtin "max") (rMaxR X.K) := (cr_max hc).or (cr_maxT hc hr)
theorem callr_min {k : Nat} (hc : X.calm = true) (hr : Room k X.A) : CallR X (.builtin "min") (rMinR X.K) := (cr_min hc).or (cr_minT hc hr)
theorem callr_sum (hc : X.calm = true) : CallR X (.builtin "sum") (rSumR X.K) := (cr_sum hc).or (cr_sumT hc)
theorem ok_max : OkN (pg X) (rMaxR X.K) oMax := by
  intro B L ρ S S' H ds d' xs Q R rs e q
  match ds, e with
  | [d], e =>
    obtain ⟨x, rfl, r⟩ := rvs1 rs
    have gen : (match lsR d S with
      | some l => match intsD l with
        | some (n :: ns) => some (D.int (ns.foldl max n), S)
        | _ => none
      | none => none) = some (d', S') → rMaxR X.K [x] H Q := by
      intro e
      cases e1 : lsR d S with
      | none => rw [e1] at e; cases e
      | some l =>
        rw [e1] at e
        simp only at e
        cases e2 : intsD l with
        | none => rw [e2] at e; cases e
        | some ns =>
          rw [e2] at e
          cases ns with
          | nil => cases e
          | cons n ns =>
            cases e
            obtain ⟨a, vs, rfl, h1, h2⟩ := lsR_ok (G := pg X) R r e1
            obtain rfl := intsD_ok (G := pg X) h2 e2
            refine .inl ⟨a, n :: ns, rfl, h1, by simp, fun m hm hle => ?_⟩
            obtain ⟨z1, z2, z3⟩ := foldl_max_mem ns n
            have : m = ns.foldl max n := by
              have a1 : m ≤ ns.foldl max n := by
                rcases List.mem_cons.mp hm with rfl | hm
                · exact z2
                · exact z3 m hm
              have a2 : ns.foldl max n ≤ m := by
                rcases z1 with z1 | z1
                · rw [z1]; exact hle n List.mem_cons_self
                · exact hle _ (List.mem_cons_of_mem _ z1)
              omega
            rw [this]
            exact here (G := pg X) q R (.int _)
    cases r with
    | @tup a vs ds h1 h2 =>
      unfold oMax at e
      simp only at e
      cases e2 : intsD ds with
      | none => rw [e2] at e; cases e
      | some ns =>
        rw [e2] at e
        cases ns with
        | nil => cases e
        | cons n ns =>
          cases e
          obtain rfl := intsD_ok (G := pg X) h2 e2
          exact .inr ⟨a, n, ns, rfl, h1.sq, here (G := pg X) q R (.int _)⟩
    | _ => exact gen e
  | d :: _ :: _, e => cases d <;> cases e
theorem ok_min : OkN (pg X) (rMinR X.K) oMin := by
  intro B L ρ S S' H ds d' xs Q R rs e q
  match ds, e with
  | [d], e =>
    obtain ⟨x, rfl, r⟩ := rvs1 rs
    have gen : (match lsR d S with
      | some l => match intsD l with
        | some (n :: ns) => some (D.int (ns.foldl min n), S)
        | _ => none
      | none => none) = some (d', S') → rMinR X.K [x] H Q := by
      intro e
      cases e1 : lsR d S with
      | none => rw [e1] at e; cases e
      | some l =>
        rw [e1] at e
        simp only at e
        cases e2 : intsD l with
        | none => rw [e2] at e; cases e
        | some ns =>
          rw [e2] at e
          cases ns with
          | nil => cases e
          | cons n ns =>
            cases e
            obtain ⟨a, vs, rfl, h1, h2⟩ := lsR_ok (G := pg X) R r e1
            obtain rfl := intsD_ok (G := pg X) h2 e2
            refine .inl ⟨a, n :: ns, rfl, h1, by simp, fun m hm hle => ?_⟩
            obtain ⟨z1, z2, z3⟩ := foldl_min_mem ns n
            have : m = ns.foldl min n := by
              have a1 : ns.foldl min n ≤ m := by
                rcases List.mem_cons.mp hm with rfl | hm
                · exact z2
                · exact z3 m hm
              have a2 : m ≤ ns.foldl min n := by
                rcases z1 with z1 | z1
                · rw [z1]; exact hle n List.mem_cons_self
                · exact hle _ (List.mem_cons_of_mem _ z1)
              omega
            rw [this]
            exact here (G := pg X) q R (.int _)
    cases r with
    | @tup a vs ds h1 h2 =>
      unfold oMin at e
      simp only at e
      cases e2 : intsD ds with
      | none => rw [e2] at e; cases e
      | some ns =>
        rw [e2] at e
        cases ns with
        | nil => cases e
        | cons n ns =>
          cases e
          obtain rfl := intsD_ok (G := pg X) h2 e2
          exact .inr ⟨a, n, ns, rfl, h1.sq, here (G := pg X) q R (.int _)⟩
    | _ => exact gen e
  | d :: _ :: _, e => cases d <;> cases e
theorem ok_max2 : OkN (pg X) (fun xs H Q => ∃ i j, xs = [.int i, .int j] ∧ Q (.int (if j > i then j else i)) H) oMax2 := by
  intro B L ρ S S' H ds d' xs Q R rs e q
  match ds, e with
  | [.int i, .int j], e =>
    obtain ⟨x, y, rfl, r1, r2⟩ := rvs2 rs
    cases r1; cases r2; cases e
    exact ⟨i, j, rfl, here (G := pg X) q R (.int _)⟩
theorem ok_min2 : OkN (pg X) (fun xs H Q => ∃ i j, xs = [.int i, .int j] ∧ Q (.int (if j < i then j else i)) H) oMin2 := by
  intro B L ρ S S' H ds d' xs Q R rs e q
  match ds, e with
  | [.int i, .int j], e =>
    obtain ⟨x, y, rfl, r1, r2⟩ := rvs2 rs
    cases r1; cases r2; cases e
    exact ⟨i, j, rfl, here (G := pg X) q R (.int _)⟩
theorem ok_sum : OkN (pg X) (rSumR X.K) oSum := by
  intro B L ρ S S' H ds d' xs Q R rs e q
  match ds, e with
  | [d], e =>
    obtain ⟨x, rfl, r⟩ := rvs1 rs
    have gen : (match lsR d S with
      | some l => match intsD l with
        | some ns => some (D.int ns.sum, S)
        | _ => none
      | none => none) = some (d', S') → rSumR X.K [x] H Q := by
      intro e
      cases e1 : lsR d S with
      | none => rw [e1] at e; cases e
      | some l =>
        rw [e1] at e
        simp only at e
        cases e2 : intsD l with
        | none => rw [e2] at e; cases e
        | some ns =>
          rw [e2] at e; cases e
          obtain ⟨a, vs, rfl, h1, h2⟩ := lsR_ok (G := pg X) R r e1
          obtain rfl := intsD_ok (G := pg X) h2 e2
          exact .inl ⟨a, ns, rfl, h1, here (G := pg X) q R (.int _)⟩
    cases r with
    | @tup a vs ds h1 h2 =>
      unfold oSum at e
      simp only at e
      cases e2 : intsD ds with
      | none => rw [e2] at e; cases e
      | some ns =>
        rw [e2] at e; cases e
        obtain rfl := intsD_ok (G := pg X) h2 e2
        exact .inr ⟨a, ns, rfl, h1.sq, here (G := pg X) q R (.int _)⟩
    | _ => exact gen e
  | d :: _ :: _, e => cases d <;> cases e
end

/-! ### displays -/
def fTup (fs : FA) : FE := fun env S => (fs env S).bind fun xs S1 => bif fit xs.length then .ok (.tup xs) S1 else .bad
def fLst (m : Bool) (fs : FA) : FE := fun env S => (fs env S).bind fun xs S1 => outO (mkL m xs S1)
section
variable {X : Cx} {w : Wx} {es : List Expr} {fs : FA} {k : Nat} {pos : Pos}
theorem se_tup (h : SA X w es fs) : SE X w (.Tuple es k pos) (fTup fs) := PE.imp (pe_tup h) fun σ H Q ⟨B, L, ρ, S, env, A, gg⟩ =>
  tA_mono (tA_bind (rel := rD (pg X)) A gg) fun x H1 ⟨B, L, ρ, S, d, A, r, g⟩ => by
    cases hf : fit d.length with
    | false => rw [hf] at g; exact g.elim
    | true =>
      rw [hf] at g
      exact ⟨by rw [← r.length]; exact fit_le hf, mkT_ok A.rh r g⟩
theorem se_lst {m : Bool} (h : SA X w es fs) : SE X w (.List es pos) (fLst m fs) := PE.imp (pe_lst h) fun σ H Q ⟨B, L, ρ, S, env, A, gg⟩ =>
  tA_mono (tA_bind (rel := rD (pg X)) A gg) fun x H1 ⟨B, L, ρ, S, d, A, r, g⟩ => by
    obtain ⟨d', S', e, q⟩ := g.outO
    exact mkL_ok A.rh r e q
end
end Sf
end

section
set_option Elab.async false
set_option maxRecDepth 100000
set_option linter.all false
/-! Sf5: statements, loops. -/
namespace Sf
open PySem PySem.Spec PyProof.Rows L2

inductive SR where
  | nx (env : En) (S : Sto)
  | bk (env : En) (S : Sto)
  | ct (env : En) (S : Sto)
  | rt (d : D) (S : Sto)
  | xc (c : Nat) (S : Sto)
  | bad
abbrev FS := En → Sto → SR
def Out.bindS {α : Type} (r : Out α) (k : α → Sto → SR) : SR := match r with
  | .ok a S => k a S
  | .exc c S => .xc c S
  | .bad => .bad
def SR.bindN (r : SR) (k : En → Sto → SR) : SR := match r with
  | .nx env S => k env S
  | r => r
def GS (G : Pg) (W : WX) (xm : XM) (B L ρ : List Addr) (H : Hp) (r : SR) (D : Ends) : Prop :=
  match r with
  | .nx env S' => ∀ σ' ρ' H', Post L ρ H ρ' H' → RH G B L ρ' H' S' → RE G.K B ρ' H' env σ' → D.nx σ' H'
  | .bk env S' => ∀ σ' ρ' H', Post L ρ H ρ' H' → RH G B L ρ' H' S' → RE G.K B ρ' H' env σ' → D.bk σ' H'
  | .ct env S' => ∀ σ' ρ' H', Post L ρ H ρ' H' → RH G B L ρ' H' S' → RE G.K B ρ' H' env σ' → D.ct σ' H'
  | .rt d S' => ∀ v ρ' H', Post L ρ H ρ' H' → RH G B L ρ' H' S' → RV G.K B ρ' H' d v → D.rt v H'
  | .xc c S' => ∀ σ' ρ' H', Post L ρ H ρ' H' → RH G B L ρ' H' S' → W (xm c) none σ' H'
  | .bad => False
def tS (G : Pg) (W : WX) (xm : XM) (f : FS) : TS := fun D σ H => ∃ B L ρ S env, At G B L ρ S env σ H ∧ GS G W xm B L ρ H (f env S) D
abbrev SS (X : Cx) (w : Wx) (st : Stmt) (f : FS) : Prop := PS X st (tS (pg X) w.W w.xm f)
abbrev SSs (X : Cx) (w : Wx) (sts : List Stmt) (f : FS) : Prop := PSs X sts (tS (pg X) w.W w.xm f)
section
variable {G : Pg} {W : WX} {xm : XM} {B L ρ ρ' : List Addr} {H H' : Hp} {σ : L2.St} {r : SR} {D D' : Ends} {S : Sto} {env : En}
theorem GS.step (g : GS G W xm B L ρ H r D) (p : Post L ρ H ρ' H') : GS G W xm B L ρ' H' r D := by
  cases r with
  | nx e S' => exact fun v ρ2 H2 q R x => g v ρ2 H2 (p.trans q) R x
  | bk e S' => exact fun v ρ2 H2 q R x => g v ρ2 H2 (p.trans q) R x
  | ct e S' => exact fun v ρ2 H2 q R x => g v ρ2 H2 (p.trans q) R x
  | rt e S' => exact fun v ρ2 H2 q R x => g v ρ2 H2 (p.trans q) R x
  | xc c S' => exact fun v ρ2 H2 q R => g v ρ2 H2 (p.trans q) R
  | bad => exact g
theorem GS.nx0 {env : En} (g : GS G W xm B L ρ H (.nx env S) D) (R : RH G B L ρ H S) (re : RE G.K B ρ H env σ) : D.nx σ H := g σ ρ H Post.refl R re
theorem tE_bindS {f : FE} {k : Sf.D → Sto → SR} (A : At G B L ρ S env σ H) (g : GS G W xm B L ρ H ((f env S).bindS k) D) :
    tE G W xm f σ H fun x H1 => ∃ B L ρ S d, At G B L ρ S env σ H1 ∧ RV G.K B ρ H1 d x ∧ GS G W xm B L ρ H1 (k d S) D := by
  refine ⟨B, L, ρ, S, env, A, ?_⟩
  revert g
  cases f env S with
  | ok d S' => exact fun g v ρ' H' p R r => ⟨B, L, ρ', S', d, A.step p R, r, GS.step g p⟩
  | exc c S' => exact fun g => g σ
  | bad => exact fun g => g
theorem tT_bindS {f : FT} {k : Bool → Sto → SR} (A : At G B L ρ S env σ H) (g : GS G W xm B L ρ H ((f env S).bindS k) D) :
    tT G W xm f σ H fun x H1 => ∃ B L ρ S, At G B L ρ S env σ H1 ∧ GS G W xm B L ρ H1 (k x S) D := by
  refine ⟨B, L, ρ, S, env, A, ?_⟩
  revert g
  cases f env S with
  | ok d S' => exact fun g v ρ' H' p R r => ⟨B, L, ρ', S', A.step p R, by cases r; exact GS.step g p⟩
  | exc c S' => exact fun g => g σ
  | bad => exact fun g => g
theorem tE_bindS2 {f g : FE} {k : Sf.D → Sf.D → Sto → SR} (A : At G B L ρ S env σ H) (gg : GS G W xm B L ρ H ((f env S).bindS fun x S1 => (g env S1).bindS fun y S2 => k x y S2) D) :
    tE G W xm f σ H fun x H1 => tE G W xm g σ H1 fun y H2 => ∃ B L ρ S d d', At G B L ρ S env σ H2 ∧ RV G.K B ρ H2 d x ∧ RV G.K B ρ H2 d' y ∧ GS G W xm B L ρ H2 (k d d' S) D := by
  refine ⟨B, L, ρ, S, env, A, ?_⟩
  revert gg
  cases f env S with
  | ok d S' =>
    intro gg v ρ' H' p R r
    have g' := GS.step gg p
    refine ⟨B, L, ρ', S', env, A.step p R, ?_⟩
    revert g'
    show GS G W xm B L ρ' H' ((g env S').bindS fun y S2 => k d y S2) D → _
    cases g env S' with
    | ok d' S2 => exact fun g' v2 ρ2 H2 p2 R2 r2 => ⟨B, L, ρ2, S2, d, d', (A.step p R).step p2 R2, r.mono p2, r2, GS.step g' p2⟩
    | exc c S' => exact fun g => g σ
    | bad => exact fun g => g
  | exc c S' => exact fun g => g σ
  | bad => exact fun g => g
theorem tE_bindS3 {f g h : FE} {k : Sf.D → Sf.D → Sf.D → Sto → SR} (A : At G B L ρ S env σ H) (gg : GS G W xm B L ρ H ((f env S).bindS fun x S1 => (g env S1).bindS fun y S2 => (h env S2).bindS fun z S3 => k x y z S3) D) :
    tE G W xm f σ H fun x H1 => tE G W xm g σ H1 fun y H2 => tE G W xm h σ H2 fun z H3 => ∃ B L ρ S d d' d'', At G B L ρ S env σ H3 ∧ RV G.K B ρ H3 d x ∧ RV G.K B ρ H3 d' y ∧ RV G.K B ρ H3 d'' z ∧ GS G W xm B L ρ H3 (k d d' d'' S) D := by
  refine ⟨B, L, ρ, S, env, A, ?_⟩
  revert gg
  cases f env S with
  | ok d S' =>
    intro gg v ρ' H' p R r
    have g' := GS.step gg p
    refine ⟨B, L, ρ', S', env, A.step p R, ?_⟩
    revert g'
    show GS G W xm B L ρ' H' ((g env S').bindS fun y S2 => (h env S2).bindS fun z S3 => k d y z S3) D → _
    cases g env S' with
    | ok d' S2 =>
      intro g' v2 ρ2 H2 p2 R2 r2
      have g2 := GS.step g' p2
      refine ⟨B, L, ρ2, S2, env, (A.step p R).step p2 R2, ?_⟩
      revert g2
      show GS G W xm B L ρ2 H2 ((h env S2).bindS fun z S3 => k d d' z S3) D → _
      cases h env S2 with
      | ok d'' S3 => exact fun g2 v3 ρ3 H3 p3 R3 r3 => ⟨B, L, ρ3, S3, d, d', d'', ((A.step p R).step p2 R2).step p3 R3, (r.mono p2).mono p3, r2.mono p3, r3, GS.step g2 p3⟩
      | exc c S' => exact fun g => g σ
      | bad => exact fun g => g
    | exc c S' => exact fun g => g σ
    | bad => exact fun g => g
  | exc c S' => exact fun g => g σ
  | bad => exact fun g => g
end

/-! ### functions of statements -/
def sSkip : FS := fun env S => .nx env S
def sSeq (f g : FS) : FS := fun env S => (f env S).bindN g
def sBreak : FS := fun env S => .bk env S
def sCont : FS := fun env S => .ct env S
def sExpr (f : FE) : FS := fun env S => (f env S).bindS fun _ S1 => .nx env S1
def sRet (f : FE) : FS := fun env S => (f env S).bindS fun x S1 => .rt x S1
def sIf (c : FT) (a b : FS) : FS := fun env S => (c env S).bindS fun x S1 => bif x then a env S1 else b env S1
def sAsg (i : Nat) (f : FE) : FS := fun env S => (f env S).bindS fun x S1 => .nx (env.set i x) S1
def setAllE : En → List Nat → List D → En
  | env, i :: is, d :: ds => setAllE (env.set i d) is ds
  | env, _, _ => env
def setAllS : L2.St → List Nat → List V → L2.St
  | σ, i :: is, d :: ds => setAllS (σ.set i (some d)) is ds
  | σ, _, _ => σ
def unTup (is : List Nat) (d : D) (env : En) : Option En := match d with
  | .tup l => bif Nat.beq l.length is.length then some (setAllE env is l) else none
  | _ => none
def sAsgT (is : List Nat) (f : FE) : FS := fun env S => (f env S).bindS fun x S1 => match unTup is x env with
  | some env' => .nx env' S1
  | none => .bad
def sAsgP (is : List Nat) (fs : FA) : FS := fun env S => (fs env S).bindS fun xs S1 => .nx (setAllE env is xs) S1
/-- o[i] = v of a list's place -/
def setO (o i v : D) (S : Sto) : Option Sto := match o, i with
  | .loc n, .int k => match S[n]? with
    | some (.lst l) => match ixN l.length k with
      | some j => some (S.set n (.lst (l.set j v)))
      | none => none
    | _ => none
  | _, _ => none
def sAsgIx (fe fo fi : FE) : FS := fun env S => (fe env S).bindS fun x S1 => (fo env S1).bindS fun o S2 => (fi env S2).bindS fun i S3 => match setO o i x S3 with
  | some S4 => .nx env S4
  | none => .bad
def sAug (i : Nat) (g : Op2) (f : FE) : FS := fun env S => (fVar i env S).bindS fun x S1 => (f env S1).bindS fun y S2 => match g x y S2 with
  | some (z, S3) => .nx (env.set i z) S3
  | none => .bad
def sto (env : En) : Option Sto → SR
  | some S => .nx env S
  | none => .bad
def augJ (g : Op2) (env : En) (o i x y : D) (S : Sto) : SR := match g x y S with
  | some (z, S5) => sto env (setO o i z S5)
  | none => .bad
def augK (g : Op2) (fe : FE) (env : En) (o i : D) (S : Sto) : SR := match o, i with
  | .loc n, .int k => match oIx (.loc n) (.int k) S with
    | some (x, S3) => (fe env S3).bindS fun y S4 => augJ g env (.loc n) (.int k) x y S4
    | none => .bad
  | _, _ => .bad
def sAugIx (g : Op2) (fo fi fe : FE) : FS := fun env S => (fo env S).bindS fun o S1 => (fi env S1).bindS fun i S2 => augK g fe env o i S2
def whileL (c : FT) (b : FS) : Nat → FS
  | 0 => fun _ _ => .bad
  | m + 1 => fun env S => (c env S).bindS fun x S1 => bif x then (match b env S1 with
    | .nx env' S' => whileL c b m env' S'
    | .ct env' S' => whileL c b m env' S'
    | .bk env' S' => .nx env' S'
    | r => r) else .nx env S1

section
variable {X : Cx} {w : Wx} {e : Expr} {st : Stmt} {sts rest : List Stmt} {f g : FS} {fe fo fi : FE} {fc : FT} {fs : FA} {pos : Pos}
theorem ss_nil : SSs X w [] sSkip := PSs.imp pss_nil fun D σ H ⟨B, L, ρ, S, env, A, g⟩ => GS.nx0 g A.rh A.re
theorem ss_cons (h1 : SS X w st f) (h2 : SSs X w rest g) : SSs X w (st :: rest) (sSeq f g) := PSs.imp (pss_cons h1 h2) fun D σ H ⟨B, L, ρ, S, env, A, gg⟩ => by
  refine ⟨B, L, ρ, S, env, A, ?_⟩
  revert gg
  unfold sSeq
  cases f env S with
  | nx env' S' => exact fun g σ' ρ' H' p R re => ⟨B, L, ρ', S', env', ⟨R, re⟩, GS.step g p⟩
  | bk e S' => exact fun g => g
  | ct e S' => exact fun g => g
  | rt e S' => exact fun g => g
  | xc c S' => exact fun g => g
  | bad => exact fun g => g
theorem ss_one (h1 : SS X w st f) : SSs X w [st] f := pss_one h1
theorem ss_pass : SS X w (.Pass pos) sSkip := PS.imp ps_pass fun D σ H ⟨B, L, ρ, S, env, A, g⟩ => GS.nx0 g A.rh A.re
theorem ss_break : SS X w (.Break pos) sBreak := PS.imp ps_break fun D σ H ⟨B, L, ρ, S, env, A, g⟩ => g σ ρ H Post.refl A.rh A.re
theorem ss_cont : SS X w (.Continue pos) sCont := PS.imp ps_continue fun D σ H ⟨B, L, ρ, S, env, A, g⟩ => g σ ρ H Post.refl A.rh A.re
theorem ss_expr (he : SE X w e fe) (hs : swapsWith e none pos.line X.env = pure false := by rfl) : SS X w (.Expr e pos) (sExpr fe) := PS.imp (ps_expr he hs) fun D σ H ⟨B, L, ρ, S, env, A, g⟩ =>
  tE_mono (tE_bindS A g) fun x H1 ⟨B, L, ρ, S, d, A, r, g⟩ => GS.nx0 g A.rh A.re
theorem ss_ret (he : SE X w e fe) : SS X w (.Return (some e) pos) (sRet fe) := PS.imp (ps_ret he) fun D σ H ⟨B, L, ρ, S, env, A, g⟩ =>
  tE_mono (tE_bindS A g) fun x H1 ⟨B, L, ρ, S, d, A, r, g⟩ => g x ρ H1 Post.refl A.rh r
theorem ss_retN : SS X w (.Return none pos) (sRet (fCon .non)) := PS.imp ps_retN fun D σ H ⟨B, L, ρ, S, env, A, g⟩ => g .non ρ H Post.refl A.rh .non
theorem ss_if {c : Expr} {a b : List Stmt} (hc : ST X w c fc) (ha : SSs X w a f) (hb : SSs X w b g) : SS X w (.If c a b pos) (sIf fc f g) := PS.imp (ps_if hc ha hb) fun D σ H ⟨B, L, ρ, S, env, A, gg⟩ =>
  tT_mono (tT_bindS A gg) fun x H1 ⟨B, L, ρ, S, A, g⟩ => by
    cases x with
    | true => exact iteT ⟨B, L, ρ, S, env, A, g⟩
    | false => exact iteF ⟨B, L, ρ, S, env, A, g⟩
theorem ss_set {i : Nat} {x : Str} {pos' : Pos} (hN : X.N.Nodup) (hi : X.N[i]? = some x) (hx : Loc X.env.scope x) (he : SE X w e fe) (hs : swapsWith e (some (.Name x pos')) pos.line X.env = pure false := by rfl) (hf : X.fn x = true ∨ X.env.scope.names.lookup x = some .local := by first | exact .inl rfl | exact .inr rfl | assumption) :
    SS X w (.Assign [.Name x pos'] e pos) (sAsg i fe) := PS.imp (ps_set hN hi hx he hs hf) fun D σ H ⟨B, L, ρ, S, env, A, g⟩ =>
  tE_mono (tE_bindS A g) fun x H1 ⟨B, L, ρ, S, d, A, r, g⟩ => GS.nx0 g A.rh (A.re.set i r)
/-- the same, whatever the rule for the assignment is -/
theorem ss_set' {i : Nat} {te : TE} (h : PS X st (tAsg te (gName i))) (he : ∀ σ H Q, tE (pg X) w.W w.xm fe σ H Q → te σ H Q) : SS X w st (sAsg i fe) := PS.imp h fun D σ H ⟨B, L, ρ, S, env, A, g⟩ =>
  he _ _ _ (tE_mono (tE_bindS A g) fun x H1 ⟨B, L, ρ, S, d, A, r, g⟩ => GS.nx0 g A.rh (A.re.set i r))

/-! ### targets -/
/-- t is a target's rule, g its function, is its slots -/
def TgOk (K : PySem.W.Frag) (t : TG) (g : D → En → Option En) (is : List Nat) : Prop := ∀ (B L ρ : List Addr) (H : Hp) (d : D) (v : V) (env env' : En) (σ : L2.St) (Q : L2.St → Hp → Prop), RV K B ρ H d v → RE K B ρ H env σ → g d env = some env' →
    (∀ σ', RE K B ρ H env' σ' → (∀ vs : List Nat, (∀ i ∈ is, i ∈ vs) → wipe σ' vs = wipe σ vs) → Q σ' H) → t v σ H Q
structure SG (X : Cx) (tg : Expr) (t : TG) (g : D → En → Option En) (is : List Nat) : Prop where
  pg : PG X tg t
  ok : TgOk X.K t g is
def tgName (i : Nat) (d : D) (env : En) : Option En := some (env.set i d)
theorem wipe_set {σ : L2.St} {i : Nat} {v : V} : ∀ {vs : List Nat}, i ∈ vs → wipe (σ.set i (some v)) vs = wipe σ vs
  | a :: vs, h => by
    unfold L2.wipe
    by_cases hi : i ∈ vs
    · rw [wipe_set hi]
    · have : i = a := by rcases List.mem_cons.mp h with h | h; exact h; exact absurd h hi
      subst this
      have key : ∀ (σ : L2.St) (vs : List Nat), i ∉ vs → wipe (σ.set i (some v)) vs = (wipe σ vs).set i (some v) := by
        intro σ vs
        induction vs with
        | nil => intro _; rfl
        | cons b vs ih =>
          intro hb
          unfold L2.wipe
          rw [ih (fun z => hb (List.mem_cons_of_mem _ z)), List.set_comm _ _ (by rintro rfl; exact hb List.mem_cons_self)]
      rw [key σ vs hi, List.set_set]
theorem tgk_name {K : PySem.W.Frag} {i : Nat} : TgOk K (gName i) (tgName i) [i] := fun B L ρ H d v env env' σ Q r re e k => by
  cases e
  exact k _ (re.set i r) fun vs hv => wipe_set (hv i (by simp))
theorem sg_name {i : Nat} {x : Str} (h : PG X (.Name x pos) (gName i)) : SG X (.Name x pos) (gName i) (tgName i) [i] := ⟨h, tgk_name⟩
/-- names in a row -/
def TgsOk (t : TGs) (is : List Nat) : Prop := ∀ (vs : List V) (σ : L2.St) (H : Hp) (Q : L2.St → Hp → Prop), vs.length = is.length → Q (setAllS σ is vs) H → t vs σ H Q
structure SGs (X : Cx) (es : List Expr) (t : TGs) (is : List Nat) : Prop where
  pg : PGs X es t
  ok : TgsOk t is
theorem tgsk_nil : TgsOk gNil [] := fun vs σ H Q h k => by
  cases vs with
  | nil => exact ⟨rfl, k⟩
  | cons => simp at h
theorem tgsk_cons {i : Nat} {is : List Nat} {t : TGs} (hr : TgsOk t is) : TgsOk (gCons (gName i) t) (i :: is) := fun vs σ H Q hl k => by
  cases vs with
  | nil => simp at hl
  | cons v vs => exact ⟨v, vs, rfl, hr vs _ H Q (by simpa using hl) k⟩
theorem sgs_nil : SGs X [] gNil [] := ⟨pgs_nil, tgsk_nil⟩
theorem sgs_cons {es : List Expr} {i : Nat} {is : List Nat} {t : TGs} (h : PG X e (gName i)) (hr : SGs X es t is) (hs : (assignEach (e :: es) X.env).map (·.2) = assign e X.env :: (assignEach es X.env).map (·.2) := by rfl) : SGs X (e :: es) (gCons (gName i) t) (i :: is) :=
  ⟨pgs_cons h hr.pg hs, tgsk_cons hr.ok⟩
theorem RE.setAll {K : PySem.W.Frag} {B ρ : List Addr} {H : Hp} {is : List Nat} : ∀ {env : En} {σ : L2.St} {ds : List D} {vs : List V}, RE K B ρ H env σ → RVs K B ρ H ds vs → RE K B ρ H (setAllE env is ds) (setAllS σ is vs) := by
  induction is with
  | nil => intro env σ ds vs h r; cases r <;> exact h
  | cons i is ih =>
    intro env σ ds vs h r
    cases r with
    | nil => exact h
    | cons r t => exact ih (h.set i r) t
theorem wipe_setAll : ∀ {is : List Nat} {σ : L2.St} {xs : List V} {vs : List Nat}, (∀ i ∈ is, i ∈ vs) → wipe (setAllS σ is xs) vs = wipe σ vs
  | [], _, xs, _, _ => by cases xs <;> rfl
  | i :: is, _, [], _, _ => rfl
  | i :: is, σ, x :: xs, vs, h => by
    show wipe (setAllS (σ.set i (some x)) is xs) vs = _
    rw [wipe_setAll fun j hj => h j (List.mem_cons_of_mem _ hj), wipe_set (h i List.mem_cons_self)]
theorem unTup_ok {K : PySem.W.Frag} {B ρ : List Addr} {H : Hp} {is : List Nat} {d : D} {v : V} {env env' : En} {σ : L2.St} (r : RV K B ρ H d v) (re : RE K B ρ H env σ) (e : unTup is d env = some env') :
    ∃ a xs, v = .ref a ∧ SqT K H a xs ∧ xs.length = is.length ∧ RE K B ρ H env' (setAllS σ is xs) := by
  cases r with
  | @tup a vs ds h1 h2 =>
    unfold unTup at e
    simp only at e
    cases hf : Nat.beq ds.length is.length with
    | false => rw [hf] at e; cases e
    | true =>
      rw [hf] at e; cases e
      exact ⟨a, vs, rfl, h1.sq, by rw [← h2.length]; exact Nat.eq_of_beq_eq_true hf, re.setAll h2⟩
  | _ => cases e
theorem tgk_tup {K : PySem.W.Frag} {n : Nat} {t : TGs} {is : List Nat} (h : TgsOk t is) (hl : is.length = n) : TgOk K (gTup K n t) (unTup is) is := fun B L ρ H d v env env' σ Q r re e k => by
  obtain ⟨a, xs, rfl, h1, h2, h3⟩ := unTup_ok r re e
  exact ⟨a, xs, rfl, h1, h2.trans hl, h xs σ H Q h2 (k _ h3 fun vs hv => wipe_setAll hv)⟩
theorem sg_tup {es : List Expr} {k n : Nat} {t : TGs} {is : List Nat} (h : SGs X es t is) (hc : X.calm = true) (hl : is.length = n) (hn : (assignEach es X.env).length = n := by rfl) (hst : (assignEach es X.env).findIdx? (·.1) = none := by rfl) : SG X (.Tuple es k pos) (gTup X.K n t) (unTup is) is :=
  ⟨pg_tup hc h.pg hn hst, tgk_tup h.ok hl⟩
/-- target = e -/
theorem ss_asgT {tg : Expr} {t : TG} {is : List Nat} (hg : SG X tg t (unTup is) is) (he : SE X w e fe) (hs : swapsWithSole [tg] e pos.line X.env = pure false := by rfl) (hw : swappedStores [tg] e X.env = pure none := by rfl)
    (h1 : (assignEach [tg] X.env).map (·.2) = [assign tg X.env] := by rfl) : SS X w (.Assign [tg] e pos) (sAsgT is fe) := PS.imp (ps_asg he hg.pg hs hw h1) fun D σ H ⟨B, L, ρ, S, env, A, g⟩ =>
  tE_mono (tE_bindS A g) fun x H1 ⟨B, L, ρ, S, d, A, r, g⟩ => by
    cases hu : unTup is d env with
    | none => rw [hu] at g; exact g.elim
    | some env' =>
      rw [hu] at g
      exact hg.ok B L ρ H1 d x env env' σ D.nx r A.re hu fun σ' re _ => GS.nx0 g A.rh re
theorem tA_bindS {D : Ends} {G : Pg} {W : WX} {xm : XM} {B L ρ S env σ H} {k : List Sf.D → Sto → SR} (A : At G B L ρ S env σ H) (g : GS G W xm B L ρ H ((fs env S).bindS k) D) :
    tA G W xm fs σ H fun x H1 => ∃ B L ρ S d, At G B L ρ S env σ H1 ∧ RVs G.K B ρ H1 d x ∧ GS G W xm B L ρ H1 (k d S) D := by
  refine ⟨B, L, ρ, S, env, A, ?_⟩
  revert g
  cases fs env S with
  | ok d S' => exact fun g v ρ' H' p R r => ⟨B, L, ρ', S', d, A.step p R, r, GS.step g p⟩
  | exc c S' => exact fun g => g σ
  | bad => exact fun g => g
/-- a, b = x, y; a, b, c = x, y, z with plain local names -/
def len2 : List D → Bool
  | [_, _] => true
  | _ => false
def len3 : List D → Bool
  | [_, _, _] => true
  | _ => false
def sPar2 (i j : Nat) (fs : FA) : FS := fun env S => (fs env S).bindS fun xs S1 => bif len2 xs then .nx (setAllE env [i, j] xs) S1 else .bad
def sPar3 (i j k : Nat) (fs : FA) : FS := fun env S => (fs env S).bindS fun xs S1 => bif len3 xs then .nx (setAllE env [i, j, k] xs) S1 else .bad
theorem ss_par2 {i j : Nat} {ta : TA} (h : PS X st (tPar i j ta)) (ha : ∀ σ H Q, tA (pg X) w.W w.xm fs σ H Q → ta σ H Q) : SS X w st (sPar2 i j fs) := PS.imp h fun D σ H ⟨B, L, ρ, S, env, A, g⟩ =>
  ha _ _ _ (tA_mono (tA_bindS A g) fun x H1 ⟨B, L, ρ, S, d, A, r, g⟩ => by
    match d, r, g with
    | [a, b], .cons r1 (.cons r2 .nil), g => exact ⟨_, _, rfl, GS.nx0 g A.rh ((A.re.set i r1).set j r2)⟩)
theorem ss_par3 {i j k : Nat} {ta : TA} (h : PS X st (tPar3 i j k ta)) (ha : ∀ σ H Q, tA (pg X) w.W w.xm fs σ H Q → ta σ H Q) : SS X w st (sPar3 i j k fs) := PS.imp h fun D σ H ⟨B, L, ρ, S, env, A, g⟩ =>
  ha _ _ _ (tA_mono (tA_bindS A g) fun x H1 ⟨B, L, ρ, S, d, A, r, g⟩ => by
    match d, r, g with
    | [a, b, c], .cons r1 (.cons r2 (.cons r3 .nil)), g => exact ⟨_, _, _, rfl, GS.nx0 g A.rh (((A.re.set i r1).set j r2).set k r3)⟩)

/-! ### o[i] = e, o[i] op= e, x op= e -/
theorem setO_ok {G : Pg} {B L ρ : List Addr} {S S' : Sto} {H : Hp} {o i v : D} {ov iv vv : V} {Q : Hp → Prop} (R : RH G B L ρ H S) (ro : RV G.K B ρ H o ov) (ri : RV G.K B ρ H i iv) (rv : RV G.K B ρ H v vv) (e : setO o i v S = some S')
    (q : ∀ H', Post L ρ H ρ H' → RH G B L ρ H' S' → Q H') : rSetL ov iv vv H Q := by
  cases ro with
  | @loc n a h =>
    cases ri with
    | int k =>
      unfold setO at e
      simp only at e
      cases q1 : S[n]? with
      | none => rw [q1] at e; cases e
      | some ob =>
        rw [q1] at e
        cases ob with
        | lst l =>
          simp only at e
          cases q2 : ixN l.length k with
          | none => rw [q2] at e; cases e
          | some j =>
            rw [q2] at e; cases e
            obtain ⟨vs, h1, h2⟩ := R.ob n a _ h q1
            have hl : a ∉ L := R.notL h1 fun _ _ z => nomatch z
            refine ⟨a, vs, k, j, rfl, rfl, h1, by rw [← h2.length]; exact q2, ?_⟩
            exact q _ (Post.wr h hl) (R.wr h hl ⟨_, upd_same, RVs.mono (Post.wr (L := L) h hl) _ _ (h2.set rv j)⟩)
        | _ => cases e
    | _ => cases e
  | _ => cases e
theorem ss_setIx {o i : Expr} {opos : Pos} (he : SE X w e fe) (ho : SE X w o fo) (hi : SE X w i fi) (hs : swapsWithSole [.Subscript o i opos] e pos.line X.env = pure false := by rfl) (hw : swappedStores [.Subscript o i opos] e X.env = pure none := by rfl)
    (h1 : (assignEach [.Subscript o i opos] X.env).map (·.2) = [assign (.Subscript o i opos) X.env] := by rfl)
    (ha : ∀ v, assign (.Subscript o i opos) X.env v = (do
      let ov ← holding [v] (eval o X.env)
      let iv ← holding [v, ov] (eval i X.env)
      standAt opos
      holding [v, ov, iv] (setItem ov iv v)
      release [v, ov, iv] []) := by intro _; rfl) : SS X w (.Assign [.Subscript o i opos] e pos) (sAsgIx fe fo fi) :=
  PS.imp (ps_asg he (pg_sub ho hi set_list ha) hs hw h1) fun D σ H ⟨B, L, ρ, S, env, A, g⟩ =>
    tE_mono (tE_bindS3 A g) fun x H1 h => tE_mono h fun y H2 h => tE_mono h fun z H3 ⟨B, L, ρ, S, d, d', d'', A, r, r', r'', g⟩ => by
      cases hu : setO d' d'' d S with
      | none => rw [hu] at g; exact g.elim
      | some S' =>
        rw [hu] at g
        exact setO_ok A.rh r' r'' r hu fun H' p R => g σ ρ H' p R (A.re.mono p)
theorem ss_aug {i : Nat} {x : Str} {op : Operator} {r : R2} {g : Op2} {pos' : Pos} (hN : X.N.Nodup) (hi : X.N[i]? = some x) (hx : Loc X.env.scope x) (ho : OpR X (inplaceOp op) r) (h : Ok2 (pg X) r g) (he : SE X w e fe) (hf : X.fn x = true ∨ X.env.scope.names.lookup x = some .local := by first | exact .inl rfl | exact .inr rfl | assumption) :
    SS X w (.AugAssign (.Name x pos') op e pos) (sAug i g fe) := PS.imp (ps_aug hN hi hx he ho hf) fun D σ H ⟨B, L, ρ, S, env, A, gg⟩ => by
  unfold sAug fVar at gg
  cases q : env[i]? with
  | none => rw [q] at gg; exact gg.elim
  | some d =>
    rw [q] at gg
    rcases A.re.at' i d q with z | ⟨v, e1, rv⟩
    · subst z; exact gg.elim
    · have gg' : GS (pg X) w.W w.xm B L ρ H ((fe env S).bindS fun y S2 => match g d y S2 with
          | some (z, S3) => .nx (env.set i z) S3
          | none => .bad) D := by
        cases d
        case und => exact gg.elim
        all_goals exact gg
      refine ⟨v, e1, ?_⟩
      refine ⟨B, L, ρ, S, env, A, ?_⟩
      revert gg'
      cases fe env S with
      | ok d2 S' =>
        intro gg' v2 ρ' H' p R r2
        have g2 := GS.step gg' p
        revert g2
        show GS (pg X) w.W w.xm B L ρ' H' (match g d d2 S' with
          | some (z, S3) => .nx (env.set i z) S3
          | none => .bad) D → _
        cases hu : g d d2 S' with
        | none => exact fun g2 => g2.elim
        | some zs =>
          obtain ⟨z, S3⟩ := zs
          intro g2
          exact h B L ρ' S' S3 H' d d2 z v v2 _ R (rv.mono p) r2 hu fun v3 ρ3 H3 p3 R3 r3 => g2 _ ρ3 H3 p3 R3 ((A.re.mono (p.trans p3)).set i r3)
      | exc c S' => exact fun g => g σ
      | bad => exact fun g => g
theorem ss_augIx {o i : Expr} {op : Operator} {r : R2} {g : Op2} {tpos : Pos} (ho' : OpR X (inplaceOp op) r) (h : Ok2 (pg X) r g) (ho : SE X w o fo) (hi : SE X w i fi) (he : SE X w e fe)
    (ha : ∀ ov iv new, augStore i ov iv new = (do holding [new, ov, iv] (setItem ov iv new); release [new, ov, iv] []; pure .next) := by intros; rfl) : SS X w (.AugAssign (.Subscript o i tpos) op e pos) (sAugIx g fo fi fe) :=
  PS.imp (ps_augS (tget := rIxL X.K) (tset := rSetL) (tip := r) ho hi pget_list he ho' set_list ha) fun D σ H ⟨B, L, ρ, S, env, A, gg⟩ =>
    tE_mono (tE_bindS2 A gg) fun x H1 h1 => tE_mono h1 fun y H2 ⟨B, L, ρ, S, d, d', A, r1, r2, g2⟩ => by
      cases d with
      | loc n =>
        cases d' with
        | int k =>
          unfold augK at g2
          simp only at g2
          cases hu : oIx (.loc n) (.int k) S with
          | none => rw [hu] at g2; exact g2.elim
          | some xs =>
            obtain ⟨x1, S1⟩ := xs
            rw [hu] at g2
            unfold oIx at hu
            simp only at hu
            cases e1 : lsR (.loc n) S with
            | none => rw [e1] at hu; cases hu
            | some l =>
              rw [e1] at hu
              simp only at hu
              cases e2 : ixD l k with
              | none => rw [e2] at hu; cases hu
              | some d3 =>
                rw [e2] at hu; cases hu
                obtain ⟨a, vs, rfl, h5, h6⟩ := lsR_ok (G := pg X) A.rh r1 e1
                obtain ⟨v, e3, r3⟩ := ixD_ok (G := pg X) h6 e2
                cases r2
                refine ⟨a, vs, k, v, rfl, rfl, h5, e3, ?_⟩
                refine ⟨B, L, ρ, S, env, A, ?_⟩
                revert g2
                show GS (pg X) w.W w.xm B L ρ H2 ((fe env S).bindS fun y S4 => augJ g env (.loc n) (.int k) x1 y S4) D → _
                cases fe env S with
                | ok d4 S4 =>
                  intro g2 v4 ρ4 H4 p4 R4 r4
                  have g4 := GS.step g2 p4
                  revert g4
                  show GS (pg X) w.W w.xm B L ρ4 H4 (augJ g env (.loc n) (.int k) x1 d4 S4) D → _
                  unfold augJ
                  cases hg : g x1 d4 S4 with
                  | none => exact fun g => g.elim
                  | some zs =>
                    obtain ⟨z, S5⟩ := zs
                    intro g4
                    refine h B L ρ4 S4 S5 H4 x1 d4 z v v4 _ R4 (r3.mono p4) r4 hg fun v5 ρ5 H5 p5 R5 r5 => ?_
                    have g5 : GS (pg X) w.W w.xm B L ρ4 H4 (sto env (setO (.loc n) (.int k) z S5)) D := g4
                    cases hs : setO (.loc n) (.int k) z S5 with
                    | none => rw [hs] at g5; exact g5.elim
                    | some S6 =>
                      rw [hs] at g5
                      refine setO_ok R5 ((r1.mono p4).mono p5) (.int k) r5 hs fun H6 p6 R6 => ?_
                      exact g5 σ ρ5 H6 (p5.trans p6) R6 (A.re.mono (p4.trans (p5.trans p6)))
                | exc c S' => exact fun g => g σ
                | bad => exact fun g => g
        | _ => cases g2
      | _ => cases g2

/-! ### while -/
theorem ss_while {c : Expr} {body : List Stmt} (N : Nat) (hp : PassesOwn (model X.prog X.w) X.A X.env X.xe) (hc : ST X w c fc) (hb : SSs X w body f) : SS X w (.While c body [] pos) (whileL fc f N) := PS.imp (ps_while hp hc hb) fun D σ H ⟨B, L, ρ, S, env, A, gg⟩ => by
  refine ⟨fun m σ H => ∃ B L ρ S env, At (pg X) B L ρ S env σ H ∧ GS (pg X) w.W w.xm B L ρ H (whileL fc f m env S) D, ⟨N, B, L, ρ, S, env, A, gg⟩, fun m σ H ⟨B, L, ρ, S, env, A, g⟩ => ?_⟩
  cases m with
  | zero => exact g.elim
  | succ m =>
    unfold whileL at g
    refine tT_mono (tT_bindS A g) fun b H1 ⟨B, L, ρ, S, A, g⟩ => ?_
    cases b with
    | false => exact iteF (GS.nx0 g A.rh A.re)
    | true =>
      refine iteT ⟨fun σ H => ∃ B L ρ S env, At (pg X) B L ρ S env σ H ∧ GS (pg X) w.W w.xm B L ρ H (whileL fc f m env S) D, fun σ' H' h => ⟨m, Nat.lt_succ_self m, h⟩, ?_⟩
      refine ⟨B, L, ρ, S, env, A, ?_⟩
      revert g
      show GS (pg X) w.W w.xm B L ρ H1 (match f env S with
        | .nx env' S' => whileL fc f m env' S'
        | .ct env' S' => whileL fc f m env' S'
        | .bk env' S' => .nx env' S'
        | r => r) D → _
      cases f env S with
      | nx env' S' => exact fun g σ' ρ' H' p R re => ⟨B, L, ρ', S', env', ⟨R, re⟩, GS.step g p⟩
      | ct env' S' => exact fun g σ' ρ' H' p R re => ⟨B, L, ρ', S', env', ⟨R, re⟩, GS.step g p⟩
      | bk e S' => exact fun g => g
      | rt e S' => exact fun g => g
      | xc c S' => exact fun g => g
      | bad => exact fun g => g
end
end Sf
end

section
set_option Elab.async false
set_option maxRecDepth 100000
set_option linter.all false
/-! SfE: enumerate over a tuple; a walk over a list or a tuple. -/
namespace Sf
open PySem PySem.Spec PyProof.Rows L2
open AutoSeq1 (wpAny_loadPart')

theorem meets_enum_newT (l : Addr) (items : Array Value) (n : Nat) (dct : Option Addr) (sl : Array (Option Value)) :
    Meets (Builtin.«enumerate.__new__» ⟨[.type "enumerate", .ref l], []⟩) (fun _ R s => s.heap.get? l = some { cls := .type "tuple", dict := dct, data := .seq items n, slots := sl } ∧
      R (.ok (.ret (.ref (s.heap.push { cls := .type "tuple_iterator", data := .fields #[.ref l, .int 0 0] }).objs.size)))
        { s with heap := (s.heap.push { cls := .type "tuple_iterator", data := .fields #[.ref l, .int 0 0] }).push { cls := .type "enumerate", data := .fields #[.none, .bool false, .ref s.heap.objs.size, rawInt 0, .none, .none] } }) :=
  .of_wp fun prog w A R s h => by
    obtain ⟨hp, g, d, tk, os⟩ := s; obtain ⟨hl, h⟩ := h
    have hsub := sub_enumerate
    have hL : Heap.IsTuple (Shared.heap ⟨hp, g, d, tk, os⟩) l items := ⟨_, hl, rfl, n, rfl⟩
    wp_walk using wpAny_loadPart' hl
    refine wpAny_stack_any fun st => wpAny_pure ?_
    split
    · rename_i c _ _ _ _ _
      cases (c == Value.type "enumerate")
      · wp_walk using wpAny_loadPart' hl, wpAny_pyIter_tuple hL
        exact ⟨_, rfl, h⟩
      · wp_walk using wpAny_loadPart' hl, wpAny_pyIter_tuple hL
        exact ⟨_, rfl, h⟩
    · wp_walk using wpAny_loadPart' hl, wpAny_pyIter_tuple hL
      exact ⟨_, rfl, h⟩
theorem call_enum_tuple {prog : Program} {w : World} {A : Around} {E : Value → Shared → Prop} {s : Shared} {l : Addr} {items : Array Value} {Q : Value → Shared → Prop} (hL : s.heap.IsTuple l items)
    (h : ∀ h', IsEnum h' (s.heap.objs.size + 1) s.heap.objs.size 0 .none → h'.IsTupleIter s.heap.objs.size l 0 → h'.objs.size = s.heap.objs.size + 2 →
      (∀ b o, s.heap.get? b = some o → h'.get? b = some o) → Q (.ref (s.heap.objs.size + 1)) { s with heap := h' }) :
    wpAny (model prog w) A (call (.type "enumerate") [.ref l]) Q E s := by
  obtain ⟨⟨c, dct, dt, sl⟩, hl, hc, n, hd⟩ := hL
  replace hc : c = .type "tuple" := hc
  replace hd : dt = .seq items n := hd
  subst hc hd
  refine callType_new F.called_enumerate (by decide) (F.typeCall_enumerate_1 _) (F.newCall_enumerate_1 _) (fun obj => F.args_object_init_2 obj _) F.entry_enumerate_new
    (meets_enum_newT l items n dct sl) ⟨hl, ?_⟩
  have hz : (s.heap.push { cls := .type "tuple_iterator", data := .fields #[.ref l, .int 0 0] }).objs.size = s.heap.objs.size + 1 := Heap.size_push ..
  show _ ∧ _
  rw [hz]
  have he : IsEnum ((s.heap.push { cls := .type "tuple_iterator", data := .fields #[.ref l, .int 0 0] }).push
      { cls := .type "enumerate", data := .fields #[.none, .bool false, .ref s.heap.objs.size, rawInt 0, .none, .none] }) (s.heap.objs.size + 1) s.heap.objs.size 0 .none := by
    have := Heap.get?_push_size (s.heap.push { cls := .type "tuple_iterator", data := .fields #[.ref l, .int 0 0] })
      (o := { cls := .type "enumerate", data := .fields #[.none, .bool false, .ref s.heap.objs.size, rawInt 0, .none, .none] }) rfl
    rw [hz] at this; exact this
  refine ⟨⟨_, he, rfl⟩, h _ he ⟨_, Heap.get?_push_of_some _ (Heap.get?_push_size _ rfl), rfl, rfl⟩ (by rw [Heap.size_push, hz]) fun b o x => Heap.get?_push_of_some _ (Heap.get?_push_of_some _ x)⟩

/-- the tuple at a, each item in a new pair -/
def IteT (K : PySem.W.Frag) (a : Addr) : It :=
  ⟨fun i H => ∃ (xs : List V) (x : V), SqT K H a xs ∧ xs[i]? = some x, fun i H v H' => ∃ T x, v = .ref T ∧ H T = none ∧ H' = upd H T (.tup [.int (i : Nat), x]) ∧ ∀ xs, SqT K H a xs → xs[i]? = some x, fun i H => ∃ xs : List V, SqT K H a xs ∧ xs.length = i⟩
theorem turn_enumT {P : Program} {w : World} {K : PySem.W.Frag} {elts : List Expr} {kk : Nat} {tpos : Pos} (a e it : Addr) :
    Turn P w K (.Tuple elts kk tpos) (IteT K a) [e, it] e (fun i h => (∃ old, IsEnum h e it ((i : Nat) : Int) old) ∧ h.IsTupleIter it a i ∧ e ≠ it ∧ a ≠ it ∧ a ≠ e) where
  mem := by simp
  obj := fun i h st b hb => by
    obtain ⟨⟨old, he⟩, ⟨o, ho, hc, hd⟩, _⟩ := st
    have e' : b = e ∨ b = it := by simpa using hb
    rcases e' with z | z
    · rw [z]; exact ⟨_, he, fun v q => nomatch q⟩
    · rw [z]; exact ⟨o, ho, fun v q => by rw [hd] at q; cases q⟩
  keep := fun i h h' st k => let ⟨⟨old, he⟩, hi, hne⟩ := st; ⟨⟨old, k e (by simp) _ he⟩, hi.at fun o q => k it (by simp) o q, hne⟩
  item := by
    intro X hP hw hK hc i pins s σ H E I hf st hg
    subst hP hw hK
    obtain ⟨⟨old, he⟩, hit, hne, ha1, ha2⟩ := st
    obtain ⟨xs, x, hq, hx⟩ := hg
    obtain ⟨its, rv, p, hz⟩ := I.tuple hq
    obtain ⟨u, hu, ru⟩ := rv.get hx
    have hel : e < s.heap.objs.size := Heap.lt_size he
    have hil : it < s.heap.objs.size := by obtain ⟨_, q, _⟩ := hit; exact Heap.lt_size q
    have hlt : i < its.toArray.size := by
      have := (List.getElem?_eq_some_iff.mp hu).1
      simpa using this
    refine wpAny_pyNext_enum_itemD (PySem.Draws.tuple (A := X.A.in1) (I.ok.hd hc) it a ha1 its.toArray) he ⟨hit, p⟩ hlt hne (by simp [hne, Ne.symm ha2]) fun y h' tk hy ho st' hT hsz hk => ?_
    have hyu : y = u := by
      have h1 : its[i]? = some y := by simpa using hy
      rw [hu] at h1
      exact (Option.some.inj h1).symm
    subst hyu
    refine ⟨_, rfl, wpAny_letOwnedTupleGo_enum (s := { s with heap := h', toks := tk + 1 }) ho fun h'' he' sb => ?_⟩
    have hT2 : h''.get? s.heap.objs.size = some { cls := .type "tuple", data := .seq #[.int i tk, y] } := (sb.2 _ (Nat.ne_of_gt hel)).trans hT
    have new : ObjOk X.prog X.w (upd H s.heap.objs.size (.tup [.int (i : Nat), x])) h'' s.heap.objs.size (.tup [.int (i : Nat), x]) :=
      ⟨by show 2 ≤ sizeLine; decide, [.int i tk, y], .cons ⟨_, rfl⟩ (.cons ru .nil), ⟨_, hT2, rfl, _, rfl⟩⟩
    have I1 : Inv X pins σ (upd H s.heap.objs.size (.tup [.int (i : Nat), x])) { s with heap := h'', toks := tk + 1 } :=
      I.turnedNew (ch := [e, it]) (fun b ob hb q => (sb.2 b (fun z => hb (by simp [z]))).trans (hk b ob (fun z => hb (by simp [z])) (fun z => hb (by simp [z])) q)) hf (Nat.le_refl _) new
    refine ⟨.ref s.heap.objs.size, _, I1, rfl, ⟨_, x, rfl, I.hok.fresh (Nat.le_refl _), rfl, fun ys hy => by rw [I.tuple_inj hy hq]; exact hx⟩, ⟨⟨y, ?_⟩, st'.1.at fun o q => (sb.2 it (Ne.symm hne)).trans q, hne, ha1, ha2⟩, fun b hb => ?_⟩
    · have e1 : ((i + 1 : Nat) : Int) = (i : Int) + 1 := by omega
      rw [e1]; exact he'
    · have hb' : b < s.heap.objs.size := by
        have e' : b = e ∨ b = it := by simpa using hb
        rcases e' with z | z
        · rw [z]; exact hel
        · rw [z]; exact hil
      rw [upd_ne (Nat.ne_of_lt hb')]
      exact (hf b hb).1
  done := by
    intro X hP hw hK hc i pins s σ H E I hf st hg
    subst hP hw hK
    obtain ⟨⟨old, he⟩, hit, hne, ha1, ha2⟩ := st
    obtain ⟨xs, hq, hx⟩ := hg
    obtain ⟨its, rv, p, hz⟩ := I.tuple hq
    obtain ⟨f0, f1, f2, f3, f4, f5⟩ := hf it (by simp)
    have hl := rv.length
    have hsz : its.toArray.size = i := by simp; omega
    refine wpAny_pyNext_enum_endD (PySem.Draws.tuple (A := X.A.in1) (I.ok.hd hc) it a ha1 its.toArray) he ?_ fun h' eb => ⟨rfl, I.turned (t' := s.toks) (fun b o hb q => eb b o hb q) f0 f1 f3 f4 f5⟩
    rw [hsz]
    exact ⟨hit, p⟩
  self := fun A i s Q E st h => let ⟨⟨_, he⟩, _⟩ := st; wpAny_pyIter_enum he h
def iEnumT (K : PySem.W.Frag) (ta : TA) : TI := fun σ H R => ta σ H fun vs H1 => ∃ a xs, vs = [.ref a] ∧ SqT K H1 a xs ∧ R (IteT K a) H1
theorem pi_enumT {X : Cx} {e : Expr} {ta : TA} {p pos tpos : Pos} {elts : List Expr} {kk : Nat} (hg : Gl X "enumerate") (hm : X.mg "enumerate" = none) (ha : PA X [e] ta) (hs : starEach [e] X.env = [(false, eval e X.env)] := by rfl) :
    PI X (.Tuple elts kk tpos) (.Call (.Name "enumerate" p) [e] [] pos) (iEnumT X.K ta) := by
  refine ⟨fun pins s σ H R I h => ?_⟩
  refine Call_ (ld_blt I hg hm boot_enumerate (PyProof.Rows.callWith_type1 (thn (ha.run pos pins s σ H _ I h) fun us s1 ⟨vs, H1, I1, r1, q1⟩ => ?_) hs rfl))
  obtain ⟨a, xs, ex, hq, q⟩ := q1
  subst ex
  cases r1 with
  | cons r rr =>
    cases rr
    cases r
    obtain ⟨its, rv, p', hz⟩ := I1.tuple hq
    have hal : a < s1.heap.objs.size := by obtain ⟨o, q, _⟩ := id p'; exact Heap.lt_size q
    refine call_enum_tuple (show s1.heap.IsTuple a its.toArray from p') fun h' he hit hsz hk => wpAny_pyIter_enum he ?_
    have I2 : Inv X pins σ H1 { s1 with heap := h' } := I1.kept (t' := s1.toks) hk
    refine ⟨s1.heap.objs.size + 1, [s1.heap.objs.size + 1, s1.heap.objs.size], _, _, H1, rfl, I2, turn_enumT a (s1.heap.objs.size + 1) s1.heap.objs.size, ⟨⟨.none, he⟩, hit, Nat.succ_ne_self _, Nat.ne_of_lt hal, Nat.ne_of_lt (Nat.lt_succ_of_lt hal)⟩, fun b hb => ?_, q⟩
    have e' : b = s1.heap.objs.size + 1 ∨ b = s1.heap.objs.size := by simpa using hb
    have hle : s1.heap.objs.size ≤ b := by
      rcases e' with z | z
      · rw [z]; exact Nat.le_add_right _ _
      · rw [z]; exact Nat.le_refl _
    exact I1.fpOk hle (I1.hok.fresh hle)
/-- a list or a tuple, walked -/
def iSeq (K : PySem.W.Frag) (tl : TE) : TI := fun σ H R => tl σ H fun x H1 => ∃ a, x = .ref a ∧ (((∃ xs, SqL K H1 a xs) ∧ R (Itl K a) H1) ∨ ((∃ xs, SqT K H1 a xs) ∧ R (Itt K a) H1))
theorem pi_seq {X : Cx} {tg l : Expr} {tl : TE} (hl : PE X l tl) : PI X tg l (iSeq X.K tl) := by
  refine ⟨fun pins s σ H R I h => ?_⟩
  refine thn (hl.run pins s σ H _ I h) fun v s1 ⟨x, H1, I1, r1, q1⟩ => ?_
  obtain ⟨a, e, q⟩ := q1
  subst e
  cases r1
  rcases q with ⟨⟨xs, hq⟩, q⟩ | ⟨⟨xs, hq⟩, q⟩
  · obtain ⟨its, rv, p, hz⟩ := I1.list hq
    refine wpAny_pyIter_list p.isList ?_
    refine ⟨s1.heap.objs.size, [s1.heap.objs.size], _, _, H1, rfl, I1.kept (t' := s1.toks) fun b o e => Heap.get?_push_of_some _ e, turn_list a _, ⟨_, Heap.get?_push_size _ rfl, rfl, rfl⟩, fun b hb => ?_, q⟩
    have e : b = s1.heap.objs.size := by simpa using hb
    subst e
    exact I1.fpOk (Nat.le_refl _) (I1.hok.fresh (Nat.le_refl _))
  · obtain ⟨its, rv, p, hz⟩ := I1.tuple hq
    refine wpAny_pyIter_tuple (show s1.heap.IsTuple a its.toArray from p) ?_
    refine ⟨s1.heap.objs.size, [s1.heap.objs.size], _, _, H1, rfl, I1.kept (t' := s1.toks) fun b o e => Heap.get?_push_of_some _ e, turn_tuple a _, ⟨_, Heap.get?_push_size _ rfl, rfl, rfl⟩, fun b hb => ?_, q⟩
    have e : b = s1.heap.objs.size := by simpa using hb
    subst e
    exact I1.fpOk (Nat.le_refl _) (I1.hok.fresh (Nat.le_refl _))
end Sf
end

section
set_option Elab.async false
set_option maxRecDepth 100000
set_option linter.all false
/-! Sf6: for loops, comprehensions. -/
namespace Sf
open PySem PySem.Spec PyProof.Rows L2 RZ

theorem RV.re {K : PySem.W.Frag} {B1 ρ1 B2 ρ2 : List Addr} {H : Hp} (hB : ∀ a, a ∈ B2 ∨ a ∈ ρ2 → a ∈ B1 ∨ a ∈ ρ1) (hp : ∀ (n : Nat) (a : Addr), ρ1[n]? = some a → ρ2[n]? = some a) :
    ∀ {d : D} {v : V}, RV K B1 ρ1 H d v → RV K B2 ρ2 H d v := by
  have out : ∀ a, a ∉ B1 → a ∉ ρ1 → a ∉ B2 ∧ a ∉ ρ2 := fun a h1 h2 => ⟨fun z => (hB a (.inl z)).elim h1 h2, fun z => (hB a (.inr z)).elim h1 h2⟩
  intro d v h
  refine RV.rec (motive_1 := fun d v _ => RV K B2 ρ2 H d v) (motive_2 := fun ds vs _ => RVs K B2 ρ2 H ds vs) .non .bl .int .str (fun h _ ih => ?_) (fun h1 h2 h3 _ ih => ?_) (fun h _ ih => ?_) (fun h => .loc (hp _ _ h)) (fun h => .glob h) .nil (fun _ _ ih1 ih2 => .cons ih1 ih2) h
  · exact .tup ⟨(out _ h.1 h.2.1).1, (out _ h.1 h.2.1).2, h.2.2⟩ ih
  · exact .lst (out _ h1 h2).1 (out _ h1 h2).2 h3 ih
  · exact .scr (h.imp (fun h => ⟨(out _ h.1 h.2.1).1, (out _ h.1 h.2.1).2, h.2.2⟩) id) ih
theorem RVs.re {K : PySem.W.Frag} {B1 ρ1 B2 ρ2 : List Addr} {H : Hp} (hB : ∀ a, a ∈ B2 ∨ a ∈ ρ2 → a ∈ B1 ∨ a ∈ ρ1) (hp : ∀ (n : Nat) (a : Addr), ρ1[n]? = some a → ρ2[n]? = some a) :
    ∀ {ds : List D} {vs : List V}, RVs K B1 ρ1 H ds vs → RVs K B2 ρ2 H ds vs
  | _, _, .nil => .nil
  | _, _, .cons h t => .cons (h.re hB hp) (RVs.re hB hp t)
/-- an address that is avoided is written -/
theorem RV.av {K : PySem.W.Frag} {B ρ : List Addr} {H : Hp} {p : Addr} {o : HO} (hp : p ∈ B) : ∀ {d : D} {v : V}, RV K B ρ H d v → RV K B ρ (upd H p o) d v := by
  intro d v h
  have ne : ∀ a, a ∉ B → a ≠ p := fun a h z => h (z ▸ hp)
  refine RV.rec (motive_1 := fun d v _ => RV K B ρ (upd H p o) d v) (motive_2 := fun ds vs _ => RVs K B ρ (upd H p o) ds vs) .non .bl .int .str (fun h _ ih => ?_) (fun h1 h2 h3 _ ih => ?_) (fun h _ ih => ?_) (fun h => .loc h) (fun h => .glob h) .nil (fun _ _ ih1 ih2 => .cons ih1 ih2) h
  · exact .tup ⟨h.1, h.2.1, by rw [upd_ne (ne _ h.1)]; exact h.2.2⟩ ih
  · exact .lst h1 h2 (by rw [upd_ne (ne _ h1)]; exact h3) ih
  · refine .scr (h.imp (fun h => ⟨h.1, h.2.1, ?_⟩) id) ih
    unfold Rd; rw [upd_ne (ne _ h.1)]; exact h.2.2
theorem RVs.av {K : PySem.W.Frag} {B ρ : List Addr} {H : Hp} {p : Addr} {o : HO} (hp : p ∈ B) : ∀ {ds : List D} {vs : List V}, RVs K B ρ H ds vs → RVs K B ρ (upd H p o) ds vs
  | _, _, .nil => .nil
  | _, _, .cons h t => .cons (h.av hp) (RVs.av hp t)
/-- a new address is avoided -/
theorem RV.addB {K : PySem.W.Frag} {B ρ : List Addr} {H : Hp} {p : Addr} {o : HO} (hn : H p = none) : ∀ {d : D} {v : V}, RV K B ρ H d v → RV K (p :: B) ρ (upd H p o) d v := by
  intro d v h
  have ne : ∀ a u, H a = some u → a ≠ p := fun a u h => ne_of_none h hn
  have nb : ∀ a u, a ∉ B → H a = some u → a ∉ p :: B := fun a u h1 h2 z => (List.mem_cons.mp z).elim (ne a u h2) h1
  refine RV.rec (motive_1 := fun d v _ => RV K (p :: B) ρ (upd H p o) d v) (motive_2 := fun ds vs _ => RVs K (p :: B) ρ (upd H p o) ds vs) .non .bl .int .str (fun h _ ih => ?_) (fun h1 h2 h3 _ ih => ?_) (fun h _ ih => ?_) (fun h => .loc h) (fun h => .glob h) .nil (fun _ _ ih1 ih2 => .cons ih1 ih2) h
  · exact .tup ⟨nb _ _ h.1 h.2.2, h.2.1, by rw [upd_ne (ne _ _ h.2.2)]; exact h.2.2⟩ ih
  · exact .lst (nb _ _ h1 h3) h2 (by rw [upd_ne (ne _ _ h3)]; exact h3) ih
  · refine .scr (h.imp (fun h => ?_) id) ih
    rcases h.2.2 with z | ⟨ob, z⟩
    · exact ⟨nb _ _ h.1 z, h.2.1, .inl (by rw [upd_ne (ne _ _ z)]; exact z)⟩
    · exact ⟨nb _ _ h.1 z, h.2.1, .inr ⟨ob, by rw [upd_ne (ne _ _ z)]; exact z⟩⟩
theorem RVs.addB {K : PySem.W.Frag} {B ρ : List Addr} {H : Hp} {p : Addr} {o : HO} (hn : H p = none) : ∀ {ds : List D} {vs : List V}, RVs K B ρ H ds vs → RVs K (p :: B) ρ (upd H p o) ds vs
  | _, _, .nil => .nil
  | _, _, .cons h t => .cons (h.addB hn) (RVs.addB hn t)

/-! ### what a walk gives -/
structure WalkOk (G : Pg) (L : List Addr) (J : It) (l : List D) (I : List Addr → List Addr → Hp → Prop) : Prop where
  mono : ∀ (B ρ ρ' : List Addr) (H H' : Hp), Post L ρ H ρ' H' → I B ρ H → I B ρ' H'
  addB : ∀ (B ρ : List Addr) (H : Hp) (p : Addr) (o : HO), H p = none → I B ρ H → I (p :: B) ρ (upd H p o)
  av : ∀ (B ρ : List Addr) (H : Hp) (p : Addr) (o : HO), p ∈ B → I B ρ H → I B ρ (upd H p o)
  stop : ∀ (B ρ : List Addr) (H : Hp), I B ρ H → J.stop l.length H
  go : ∀ (B ρ : List Addr) (H : Hp) (i : Nat), I B ρ H → i < l.length → J.go i H
  yld : ∀ (B ρ : List Addr) (S : Sto) (H H' : Hp) (i : Nat) (d : D) (x : V), I B ρ H → RH G B L ρ H S → l[i]? = some d → J.yld i H x H' → Post L ρ H ρ H' ∧ RH G B L ρ H' S ∧ RV G.K B ρ H' d x
abbrev rJ (G : Pg) (B L : List Addr) : List Addr → Hp → List D → It → Prop := fun ρ H l J => ∃ I, WalkOk G L J l I ∧ I B ρ H
def tI (G : Pg) (W : WX) (xm : XM) (f : FA) : TI := fun σ H R => ∃ B L ρ S env, At G B L ρ S env σ H ∧ GO G W xm B L ρ H σ (rJ G B L) (f env S) R
theorem PI.imp {X : Cx} {tg e : Expr} {t t' : TI} (h : PI X tg e t) (i : ∀ σ H Q, t' σ H Q → t σ H Q) : PI X tg e t' := ⟨fun pins s σ H Q I q => h.run pins s σ H Q I (i σ H Q q)⟩
abbrev SI (X : Cx) (w : Wx) (tg e : Expr) (f : FA) : Prop := PI X tg e (tI (pg X) w.W w.xm f)
def itemsD : D → Option (List D)
  | .tup l => some l
  | .lst l => some l
  | .scr l => some l
  | _ => none
def iSq (a : FE) : FA := fun env S => (a env S).bind fun x S1 => match itemsD x with
  | some l => .ok l S1
  | none => .bad
def rngL (lo : Int) : Nat → List D
  | 0 => []
  | n + 1 => .int lo :: rngL (lo + 1) n
def smallI (i : Int) : Bool := decide (-1000000000000 ≤ i) && decide (i ≤ 1000000000000)
def iRng (a : FE) : FA := fun env S => (a env S).bind fun x S1 => match x with
  | .int j => bif smallI j then .ok (rngL 0 j.toNat) S1 else .bad
  | _ => .bad
def iRngB (a b : FE) : FA := fun env S => (a env S).bind fun x S1 => (b env S1).bind fun y S2 => match x, y with
  | .int i, .int j => bif smallI i && smallI j then .ok (rngL i (j - i).toNat) S2 else .bad
  | _, _ => .bad
def enumL (k : Nat) : List D → List D
  | [] => []
  | d :: r => .tup [.int k, d] :: enumL (k + 1) r
def iEnumF (a : FE) : FA := fun env S => (a env S).bind fun x S1 => match x with
  | .tup l => .ok (enumL 0 l) S1
  | _ => .bad
def zipL : List D → List D → List D
  | a :: as, b :: bs => .tup [a, b] :: zipL as bs
  | _, _ => []
def iZipF (a b : FE) : FA := fun env S => (a env S).bind fun x S1 => (b env S1).bind fun y S2 => match x, y with
  | .tup l, .tup m => .ok (zipL l m) S2
  | _, _ => .bad
theorem rngL_len (lo : Int) (n : Nat) : (rngL lo n).length = n := by
  induction n generalizing lo with
  | zero => rfl
  | succ n ih => unfold rngL; rw [List.length_cons, ih]
theorem rngL_get {lo : Int} {n i : Nat} {d : D} (h : (rngL lo n)[i]? = some d) : d = .int (lo + i) := by
  induction n generalizing lo i with
  | zero => simp [rngL] at h
  | succ n ih =>
    unfold rngL at h
    cases i with
    | zero => simp at h; rw [← h]; simp
    | succ i => rw [ih (by simpa using h)]; congr 1; omega
theorem enumL_len (k : Nat) (l : List D) : (enumL k l).length = l.length := by
  induction l generalizing k with
  | nil => rfl
  | cons d r ih => unfold enumL; rw [List.length_cons, List.length_cons, ih]
theorem enumL_get {k i : Nat} {l : List D} {d : D} (h : (enumL k l)[i]? = some d) : ∃ e, l[i]? = some e ∧ d = .tup [.int ((k + i : Nat) : Int), e] := by
  induction l generalizing k i with
  | nil => simp [enumL] at h
  | cons a r ih =>
    unfold enumL at h
    cases i with
    | zero => simp at h; exact ⟨a, by simp, by rw [← h]; rfl⟩
    | succ i =>
      obtain ⟨e, h1, h2⟩ := ih (by simpa using h)
      exact ⟨e, by simpa using h1, by rw [h2]; congr 3; omega⟩
theorem zipL_len (l m : List D) : (zipL l m).length = min l.length m.length := by
  induction l generalizing m with
  | nil => simp [zipL]
  | cons d r ih =>
    cases m with
    | nil => simp [zipL]
    | cons e s => unfold zipL; rw [List.length_cons, ih, List.length_cons, List.length_cons]; omega
theorem zipL_get {i : Nat} {l m : List D} {d : D} (h : (zipL l m)[i]? = some d) : ∃ e f, l[i]? = some e ∧ m[i]? = some f ∧ d = .tup [e, f] := by
  induction l generalizing m i with
  | nil => simp [zipL] at h
  | cons a r ih =>
    cases m with
    | nil => simp [zipL] at h
    | cons b s =>
      unfold zipL at h
      cases i with
      | zero => simp at h; exact ⟨a, b, by simp, by simp, h.symm⟩
      | succ i => simpa using ih (by simpa using h)
section
variable {G : Pg} {L : List Addr}
/-- a list that stands still -/
theorem ScrAt.addB {K : PySem.W.Frag} {B ρ : List Addr} {H : Hp} {a p : Addr} {o : HO} {vs : List V} (hn : H p = none) (h : ScrAt K B ρ H a vs) : ScrAt K (p :: B) ρ (upd H p o) a vs := h.imp (fun h => by
  rcases h.2.2 with z | ⟨ob, z⟩
  · exact ⟨fun q => (List.mem_cons.mp q).elim (ne_of_none z hn) h.1, h.2.1, .inl (by rw [upd_ne (ne_of_none z hn)]; exact z)⟩
  · exact ⟨fun q => (List.mem_cons.mp q).elim (ne_of_none z hn) h.1, h.2.1, .inr ⟨ob, by rw [upd_ne (ne_of_none z hn)]; exact z⟩⟩) id
theorem walk_scr {a : Addr} {vs : List V} {l : List D} : WalkOk G L (Itl G.K a) l (fun B ρ H => ScrAt G.K B ρ H a vs ∧ RVs G.K B ρ H l vs) where
  mono := fun B ρ ρ' H H' p ⟨h, r⟩ => ⟨h.imp (fun h => ⟨h.1, p.outR h.2.1 h.2.2, p.rd h.2.1 h.2.2⟩) id, RVs.mono p _ _ r⟩
  addB := fun B ρ H p o hn ⟨h, r⟩ => ⟨h.addB hn, r.addB hn⟩
  av := fun B ρ H p o hp ⟨h, r⟩ => ⟨h.imp (fun h => ⟨h.1, h.2.1, by unfold Rd; rw [upd_ne (by rintro rfl; exact h.1 hp)]; exact h.2.2⟩) id, r.av hp⟩
  stop := fun B ρ H ⟨h, r⟩ => ⟨vs, h.sq, Nat.le_of_eq r.length.symm⟩
  go := fun B ρ H i ⟨h, r⟩ hi => by
    obtain ⟨v, e, _⟩ := r.get (List.getElem?_eq_getElem hi)
    exact ⟨vs, v, h.sq, e⟩
  yld := fun B ρ S H H' i d x ⟨h, r⟩ R hd ⟨e, y⟩ => by
    subst e
    obtain ⟨v, e, rv⟩ := r.get hd
    have := y vs h.sq
    rw [e] at this; cases this
    exact ⟨Post.refl, R, rv⟩
theorem walk_tup {a : Addr} {vs : List V} {l : List D} : WalkOk G L (Itt G.K a) l (fun B ρ H => TupAt B ρ H a vs ∧ RVs G.K B ρ H l vs) where
  mono := fun B ρ ρ' H H' p ⟨h, r⟩ => ⟨⟨h.1, p.out h.2.1 h.2.2, p.ext _ _ (.inl h.2.1) h.2.2⟩, RVs.mono p _ _ r⟩
  addB := fun B ρ H p o hn ⟨h, r⟩ => ⟨⟨fun z => (List.mem_cons.mp z).elim (ne_of_none h.2.2 hn) h.1, h.2.1, by rw [upd_ne (ne_of_none h.2.2 hn)]; exact h.2.2⟩, r.addB hn⟩
  av := fun B ρ H p o hp ⟨h, r⟩ => ⟨⟨h.1, h.2.1, by rw [upd_ne (by rintro rfl; exact h.1 hp)]; exact h.2.2⟩, r.av hp⟩
  stop := fun B ρ H ⟨h, r⟩ => ⟨vs, h.sq, Nat.le_of_eq r.length.symm⟩
  go := fun B ρ H i ⟨h, r⟩ hi => by
    obtain ⟨v, e, _⟩ := r.get (List.getElem?_eq_getElem hi)
    exact ⟨vs, v, h.sq, e⟩
  yld := fun B ρ S H H' i d x ⟨h, r⟩ R hd ⟨e, y⟩ => by
    subst e
    obtain ⟨v, e, rv⟩ := r.get hd
    have := y vs h.sq
    rw [e] at this; cases this
    exact ⟨Post.refl, R, rv⟩
theorem walk_rng {lo : Int} {n : Nat} : WalkOk G L (Itr lo n) (rngL lo n) (fun _ _ _ => True) where
  mono := fun _ _ _ _ _ _ _ => trivial
  addB := fun _ _ _ _ _ _ _ => trivial
  av := fun _ _ _ _ _ _ _ => trivial
  stop := fun _ _ _ _ => by rw [rngL_len]; exact Nat.le_refl _
  go := fun _ _ _ i _ hi => by rw [rngL_len] at hi; exact hi
  yld := fun B ρ S H H' i d x _ R hd ⟨e, y⟩ => by
    subst e y
    rw [rngL_get hd]
    exact ⟨Post.refl, R, .int _⟩
theorem walk_enum {a : Addr} {vs : List V} {l : List D} : WalkOk G L (IteT G.K a) (enumL 0 l) (fun B ρ H => TupAt B ρ H a vs ∧ RVs G.K B ρ H l vs) where
  mono := (walk_tup (G := G) (L := L)).mono
  addB := (walk_tup (G := G) (L := L)).addB
  av := (walk_tup (G := G) (L := L)).av
  stop := fun B ρ H ⟨h, r⟩ => ⟨vs, h.sq, by rw [enumL_len]; exact r.length.symm⟩
  go := fun B ρ H i ⟨h, r⟩ hi => by
    rw [enumL_len] at hi
    obtain ⟨v, e, _⟩ := r.get (List.getElem?_eq_getElem hi)
    exact ⟨vs, v, h.sq, e⟩
  yld := fun B ρ S H H' i d x ⟨h, r⟩ R hd ⟨T, v, e1, hn, e2, y⟩ => by
    subst e1 e2
    obtain ⟨e, he, rfl⟩ := enumL_get hd
    obtain ⟨v', e3, rv⟩ := r.get he
    have := y vs h.sq
    rw [e3] at this; cases this
    refine ⟨Post.newV hn, R.newV hn, .tup ⟨(R.fresh hn).2, (R.fresh hn).1, upd_same⟩ (.cons ?_ (.cons (rv.mono (Post.newV (L := L) hn)) .nil))⟩
    rw [Nat.zero_add]; exact .int _
theorem walk_zip {a b : Addr} {vs ws : List V} {l m : List D} : WalkOk G L (ItzT G.K a b) (zipL l m) (fun B ρ H => (TupAt B ρ H a vs ∧ RVs G.K B ρ H l vs) ∧ TupAt B ρ H b ws ∧ RVs G.K B ρ H m ws) where
  mono := fun B ρ ρ' H H' p ⟨h, h'⟩ => ⟨(walk_tup (G := G) (L := L)).mono B ρ ρ' H H' p h, (walk_tup (G := G) (L := L)).mono B ρ ρ' H H' p h'⟩
  addB := fun B ρ H p o hn ⟨h, h'⟩ => ⟨(walk_tup (G := G) (L := L)).addB B ρ H p o hn h, (walk_tup (G := G) (L := L)).addB B ρ H p o hn h'⟩
  av := fun B ρ H p o hp ⟨h, h'⟩ => ⟨(walk_tup (G := G) (L := L)).av B ρ H p o hp h, (walk_tup (G := G) (L := L)).av B ρ H p o hp h'⟩
  stop := fun B ρ H ⟨⟨h, r⟩, ⟨h', r'⟩⟩ => ⟨vs, ws, h.sq, h'.sq, by rw [zipL_len, ← r.length, ← r'.length]; omega⟩
  go := fun B ρ H i ⟨⟨h, r⟩, ⟨h', r'⟩⟩ hi => by
    rw [zipL_len] at hi
    obtain ⟨v, e, _⟩ := r.get (List.getElem?_eq_getElem (show i < l.length by omega))
    obtain ⟨v', e', _⟩ := r'.get (List.getElem?_eq_getElem (show i < m.length by omega))
    exact ⟨vs, ws, v, v', h.sq, h'.sq, e, e'⟩
  yld := fun B ρ S H H' i d x ⟨⟨h, r⟩, ⟨h', r'⟩⟩ R hd ⟨T, v, v', e1, hn, e2, y, y'⟩ => by
    subst e1 e2
    obtain ⟨e, f, he, hf, rfl⟩ := zipL_get hd
    obtain ⟨w1, e3, rv⟩ := r.get he
    obtain ⟨w2, e4, rv'⟩ := r'.get hf
    have z1 := y vs h.sq
    have z2 := y' ws h'.sq
    rw [e3] at z1; cases z1
    rw [e4] at z2; cases z2
    exact ⟨Post.newV hn, R.newV hn, .tup ⟨(R.fresh hn).2, (R.fresh hn).1, upd_same⟩ (.cons (rv.mono (Post.newV (L := L) hn)) (.cons (rv'.mono (Post.newV (L := L) hn)) .nil))⟩
end

section
variable {G : Pg} {W : WX} {xm : XM} {f fa fb : FE} {fs : FA}
theorem tE_bindL {α β : Type} {rel : List Addr → List Addr → List Addr → Hp → α → β → Prop} {B L ρ S env σ H} {k : D → Sto → Out α} {Q : β → Hp → Prop} (A : At G B L ρ S env σ H) (g : GO G W xm B L ρ H σ (rel B L) ((f env S).bind k) Q) :
    tE G W xm f σ H fun x H1 => ∃ B L ρ S d, At G B L ρ S env σ H1 ∧ RV G.K B ρ H1 d x ∧ GO G W xm B L ρ H1 σ (rel B L) (k d S) Q := by
  refine ⟨B, L, ρ, S, env, A, ?_⟩
  revert g
  cases f env S with
  | ok d S' => exact fun g v ρ' H' p R r => ⟨B, L, ρ', S', d, A.step p R, r, GO.step g p⟩
  | exc c S' => exact fun g => g
  | bad => exact fun g => g
theorem tA_bindL {α β : Type} {rel : List Addr → List Addr → List Addr → Hp → α → β → Prop} {B L ρ S env σ H} {k : List D → Sto → Out α} {Q : β → Hp → Prop} (A : At G B L ρ S env σ H) (g : GO G W xm B L ρ H σ (rel B L) ((fs env S).bind k) Q) :
    tA G W xm fs σ H fun x H1 => ∃ B L ρ S d, At G B L ρ S env σ H1 ∧ RVs G.K B ρ H1 d x ∧ GO G W xm B L ρ H1 σ (rel B L) (k d S) Q := by
  refine ⟨B, L, ρ, S, env, A, ?_⟩
  revert g
  cases fs env S with
  | ok d S' => exact fun g v ρ' H' p R r => ⟨B, L, ρ', S', d, A.step p R, r, GO.step g p⟩
  | exc c S' => exact fun g => g
  | bad => exact fun g => g
end
section
variable {X : Cx} {w : Wx} {tg e e2 : Expr} {fe fe2 : FE} {fs : FA} {p pos tpos : Pos} {elts : List Expr} {kk : Nat}
theorem si_seq (he : SE X w e fe) : SI X w tg e (iSq fe) := PI.imp (pi_seq he) fun σ H R ⟨B, L, ρ, S, env, A, g⟩ =>
  tE_mono (tE_bindL (rel := rJ (pg X)) A g) fun x H1 ⟨B, L, ρ, S, d, A, r, g⟩ => by
    cases r with
    | tup h r => exact ⟨_, rfl, .inr ⟨⟨_, h.sq⟩, GO.ok0 g A ⟨_, walk_tup, h, r⟩⟩⟩
    | lst h1 h2 h3 r => exact ⟨_, rfl, .inl ⟨⟨_, .inl (.inl h3)⟩, GO.ok0 g A ⟨_, walk_scr, .inl ⟨h1, h2, .inl h3⟩, r⟩⟩⟩
    | scr h r => exact ⟨_, rfl, .inl ⟨⟨_, h.sq⟩, GO.ok0 g A ⟨_, walk_scr, h, r⟩⟩⟩
    | _ => exact g.elim
def oneA (fe : FE) : FA := fCons fe fNil
theorem smallI_ok {i : Int} (h : smallI i = true) : -(2 ^ 62) ≤ i ∧ i < 2 ^ 62 := by
  unfold smallI at h
  rw [Bool.and_eq_true] at h
  have h1 := of_decide_eq_true h.1
  have h2 := of_decide_eq_true h.2
  omega
def iOf (k : List D → Option (List D)) (fs : FA) : FA := fun env S => (fs env S).bind fun xs S1 => match k xs with
  | some l => .ok l S1
  | none => .bad
def kRng1 : List D → Option (List D)
  | [.int j] => bif smallI j then some (rngL 0 j.toNat) else none
  | _ => none
def kRng2 : List D → Option (List D)
  | [.int i, .int j] => bif smallI i && smallI j then some (rngL i (j - i).toNat) else none
  | _ => none
def kEnum : List D → Option (List D)
  | [.tup l] => some (enumL 0 l)
  | _ => none
def kZip : List D → Option (List D)
  | [.tup l, .tup m] => some (zipL l m)
  | _ => none
theorem go_iOf {k : List D → Option (List D)} {σ : L2.St} {H : Hp} {R : It → Hp → Prop} (h : tI (pg X) w.W w.xm (iOf k fs) σ H R) :
    tA (pg X) w.W w.xm fs σ H fun x H1 => ∃ B L ρ S d l, RVs X.K B ρ H1 d x ∧ k d = some l ∧ RH (pg X) B L ρ H1 S ∧ ∀ J, rJ (pg X) B L ρ H1 l J → R J H1 := by
  obtain ⟨B, L, ρ, S, env, A, g⟩ := h
  refine tA_mono (tA_bindL (rel := rJ (pg X)) A g) fun x H1 ⟨B, L, ρ, S, d, A, r, g⟩ => ?_
  cases e : k d with
  | none => rw [e] at g; exact g.elim
  | some l => rw [e] at g; exact ⟨B, L, ρ, S, d, l, r, e, A.rh, fun J hJ => g J ρ H1 Post.refl A.rh hJ⟩
theorem si_range1 (ha : SA X w [e] fs) (hg : Gl X "range") (hm : X.mg "range" = none) (hs : starEach [e] X.env = [(false, eval e X.env)] := by rfl) : SI X w tg (.Call (.Name "range" p) [e] [] pos) (iOf kRng1 fs) :=
  PI.imp (pi_range1 hg hm ha hs) fun σ H R h => tA_mono (go_iOf h) fun x H1 ⟨B, L, ρ, S, d, l, r, hk, hR, q⟩ => by
    match d, r, hk with
    | [.int j], .cons (.int _) .nil, hk =>
      unfold kRng1 at hk
      simp only at hk
      cases hs : smallI j with
      | false => rw [hs] at hk; cases hk
      | true =>
        rw [hs] at hk; cases hk
        obtain ⟨h1, h2⟩ := smallI_ok hs
        exact ⟨j, rfl, h1, h2, q _ ⟨_, walk_rng, trivial⟩⟩
theorem si_range2 {b : Expr} (ha : SA X w [e, b] fs) (hg : Gl X "range") (hm : X.mg "range" = none) (hs : starEach [e, b] X.env = [(false, eval e X.env), (false, eval b X.env)] := by rfl) (hs2 : starEach [b] X.env = [(false, eval b X.env)] := by rfl) : SI X w tg (.Call (.Name "range" p) [e, b] [] pos) (iOf kRng2 fs) :=
  PI.imp (pi_range2 hg hm ha hs hs2) fun σ H R h => tA_mono (go_iOf h) fun x H1 ⟨B, L, ρ, S, d, l, r, hk, hR, q⟩ => by
    match d, r, hk with
    | [.int i, .int j], .cons (.int _) (.cons (.int _) .nil), hk =>
      unfold kRng2 at hk
      simp only at hk
      cases hs : smallI i && smallI j with
      | false => rw [hs] at hk; cases hk
      | true =>
        rw [hs] at hk; cases hk
        rw [Bool.and_eq_true] at hs
        obtain ⟨h1, h2⟩ := smallI_ok hs.1
        obtain ⟨h3, h4⟩ := smallI_ok hs.2
        exact ⟨i, j, rfl, ⟨h1, h2, h3, h4⟩, q _ ⟨_, walk_rng, trivial⟩⟩
theorem si_enum (ha : SA X w [e] fs) (hg : Gl X "enumerate") (hm : X.mg "enumerate" = none) (hs : starEach [e] X.env = [(false, eval e X.env)] := by rfl) : SI X w (.Tuple elts kk tpos) (.Call (.Name "enumerate" p) [e] [] pos) (iOf kEnum fs) :=
  PI.imp (pi_enumT hg hm ha hs) fun σ H R h => tA_mono (go_iOf h) fun x H1 ⟨B, L, ρ, S, d, l, r, hk, hR, q⟩ => by
    match d, r, hk with
    | [.tup l], .cons (.tup h r) .nil, hk => cases hk; exact ⟨_, _, rfl, h.sq, q _ ⟨_, walk_enum, h, r⟩⟩
theorem si_zip (ha : SA X w [e, e2] fs) (hg : Gl X "zip") (hm : X.mg "zip" = none) (hs : starEach [e, e2] X.env = (false, eval e X.env) :: starEach [e2] X.env := by rfl) (hpl : (backTo pos (starEach [e2] X.env)).any (·.1) = false := by rfl) :
    SI X w (.Tuple elts kk tpos) (.Call (.Name "zip" p) [e, e2] [] pos) (iOf kZip fs) :=
  PI.imp (pi_zipA hg hm ha hs hpl) fun σ H R h => tA_mono (go_iOf h) fun x H1 ⟨B, L, ρ, S, d, l, r, hk, hR, q⟩ => by
    match d, r, hk with
    | [.tup l, .tup m], .cons (.tup h r) (.cons (.tup h' r') .nil), hk => cases hk; exact ⟨_, _, _, _, rfl, .inr ⟨h.sq, h'.sq, q _ ⟨_, walk_zip, ⟨h, r⟩, h', r'⟩⟩⟩
end

/-! ### for -/
def forL (g : D → En → Option En) (b : FS) : List D → FS
  | [] => fun env S => .nx env S
  | d :: r => fun env S => match g d env with
    | none => .bad
    | some env1 => match b env1 S with
      | .nx env' S' => forL g b r env' S'
      | .ct env' S' => forL g b r env' S'
      | .bk env' S' => .nx env' S'
      | r => r
def sFor (f : FA) (g : D → En → Option En) (b : FS) : FS := fun env S => (f env S).bindS fun l S1 => forL g b l env S1
section
variable {X : Cx} {w : Wx} {tg iter : Expr} {body : List Stmt} {fi : FA} {g : D → En → Option En} {t : TG} {is : List Nat} {f : FS} {pos : Pos}
theorem ss_for (hp : PassesOwn (model X.prog X.w) X.A X.env X.xe) (hc : X.calm = true) (hi : SI X w tg iter fi) (hg : SG X tg t g is) (hb : SSs X w body f) (hs : ∀ x, foldedSetIterable iter X.env x = pure x := by intro _; rfl) :
    SS X w (.For tg iter body [] pos) (sFor fi g f) := PS.imp (ps_for hp hc hi hg.pg hb hs) fun D σ H ⟨B, L, ρ, S, env, A, gg⟩ => by
  refine ⟨B, L, ρ, S, env, A, ?_⟩
  revert gg
  unfold sFor
  cases fi env S with
  | exc c S' => exact fun g => g σ
  | bad => exact fun g => g
  | ok l S' =>
    rintro gg J ρ1 H1 p R ⟨I, wk, i0⟩
    have g1 : GS (pg X) w.W w.xm B L ρ1 H1 (forL g f l env S') D := GS.step gg p
    refine ⟨fun i m σ H => ∃ ρ S env, At (pg X) B L ρ S env σ H ∧ I B ρ H ∧ i ≤ l.length ∧ m = l.length - i ∧ GS (pg X) w.W w.xm B L ρ H (forL g f (l.drop i) env S) D, ⟨l.length, ρ1, S', env, A.step p R, i0, Nat.zero_le _, rfl, g1⟩, ?_⟩
    rintro i m σ2 H2 ⟨ρ2, S2, env2, A2, i2, hle, rfl, g2⟩
    by_cases hlt : i < l.length
    · refine .inr ⟨wk.go B ρ2 H2 i i2 hlt, fun σ H => ∃ ρ S env, At (pg X) B L ρ S env σ H ∧ I B ρ H ∧ GS (pg X) w.W w.xm B L ρ H (forL g f (l.drop (i + 1)) env S) D, fun σ' H' ⟨ρ, S, env, A, i', g'⟩ => ⟨l.length - (i + 1), by omega, ρ, S, env, A, i', hlt, rfl, g'⟩, ?_⟩
      intro x H3 y
      obtain ⟨p3, R3, r3⟩ := wk.yld B ρ2 S2 H2 H3 i l[i] x i2 A2.rh (List.getElem?_eq_getElem hlt) y
      rw [List.drop_eq_getElem_cons hlt] at g2
      unfold forL at g2
      cases hu : g l[i] env2 with
      | none => rw [hu] at g2; exact g2.elim
      | some env3 =>
        rw [hu] at g2
        refine hg.ok B L ρ2 H3 l[i] x env2 env3 σ2 _ r3 (A2.re.mono p3) hu fun σ3 re3 _ => ?_
        refine ⟨B, L, ρ2, S2, env3, ⟨R3, re3⟩, ?_⟩
        have g3 := GS.step g2 p3
        have i3 := wk.mono B ρ2 ρ2 H2 H3 p3 i2
        revert g3
        simp only
        cases f env3 S2 with
        | nx env' S' => exact fun g σ' ρ' H' p R re => ⟨ρ', S', env', ⟨R, re⟩, wk.mono B ρ2 ρ' H3 H' p i3, GS.step g p⟩
        | ct env' S' => exact fun g σ' ρ' H' p R re => ⟨ρ', S', env', ⟨R, re⟩, wk.mono B ρ2 ρ' H3 H' p i3, GS.step g p⟩
        | bk e S' => exact fun g => g
        | rt e S' => exact fun g => g
        | xc c S' => exact fun g => g
        | bad => exact fun g => g
    · have hi : i = l.length := by omega
      subst hi
      rw [List.drop_length] at g2
      exact .inl ⟨wk.stop B ρ2 H2 i2, GS.nx0 g2 A2.rh A2.re⟩
end

/-! ### comprehensions -/
def compL (g : D → En → Option En) (t : FT) (e : FE) (env : En) : List D → Sto → Out (List D)
  | [], S => .ok [] S
  | d :: r, S => match g d env with
    | none => .bad
    | some env1 => match t env1 S with
      | .ok true S1 => match e env1 S1 with
        | .ok x S2 => match compL g t e env r S2 with
          | .ok xs S3 => .ok (x :: xs) S3
          | _ => .bad
        | _ => .bad
      | .ok false S1 => compL g t e env r S1
      | _ => .bad
def tYesF : FT := fun _ S => .ok true S
/-- the list that stands at last: a value, or an object of the store -/
def fComp (m : Bool) (f : FA) (g : D → En → Option En) (t : FT) (e : FE) (vs : List Nat) : FE := fun env S => (f env S).bind fun l S1 => bif fit l.length then
  (match compL g t e (undE env vs) l S1 with
  | .ok xs S2 => bif m then .ok (.loc S2.length) (S2 ++ [.lst xs]) else .ok (.lst xs) S2
  | _ => .bad) else .bad
theorem RO.re {G : Pg} {B1 ρ1 B2 ρ2 L : List Addr} {H : Hp} (hB : ∀ a, a ∈ B2 ∨ a ∈ ρ2 → a ∈ B1 ∨ a ∈ ρ1) (hp : ∀ (n : Nat) (a : Addr), ρ1[n]? = some a → ρ2[n]? = some a) {a : Addr} {o : Ob} (h : RO G B1 L ρ1 H a o) : RO G B2 L ρ2 H a o := by
  cases o with
  | lst ds => obtain ⟨vs, e, r⟩ := h; exact ⟨vs, e, r.re hB hp⟩
  | dct lk kvs =>
    obtain ⟨ents, e, r⟩ := h
    refine ⟨ents, e, ?_⟩
    clear e; induction r with
    | nil => exact .nil
    | cons h1 h2 h3 h4 _ ih => exact .cons h1 (h2.re hB hp) h3 (h4.re hB hp) ih
  | dki lk kvs =>
    obtain ⟨ents, e, r⟩ := h
    refine ⟨ents, e, ?_⟩
    clear e; induction r with
    | nil => exact .nil
    | cons h4 _ ih => exact .cons (h4.re hB hp) ih
  | ins fs =>
    obtain ⟨C, d, ents, hb, e, r⟩ := h
    refine ⟨C, d, ents, hb, e, ?_⟩
    clear e; induction r with
    | nil => exact .nil
    | cons h4 _ ih => exact .cons (h4.re hB hp) ih
/-- an address that is avoided is written: the object stays -/
theorem RO.av {G : Pg} {B ρ L : List Addr} {H : Hp} {p : Addr} {u : HO} (hp : p ∈ B) {a : Addr} {o : Ob} (hne : a ≠ p) (h : RO G B L ρ H a o) : RO G B L ρ (upd H p u) a o := by
  cases o with
  | lst ds => obtain ⟨vs, e, r⟩ := h; exact ⟨vs, by rw [upd_ne hne]; exact e, r.av hp⟩
  | dct lk kvs =>
    obtain ⟨ents, e, r⟩ := h
    refine ⟨ents, by unfold LkAt at e ⊢; rw [upd_ne hne]; exact e, ?_⟩
    clear e; induction r with
    | nil => exact .nil
    | cons h1 h2 h3 h4 _ ih => exact .cons h1 (h2.av hp) h3 (h4.av hp) ih
  | dki lk kvs =>
    obtain ⟨ents, e, r⟩ := h
    refine ⟨ents, by unfold LkAt at e ⊢; rw [upd_ne hne]; exact e, ?_⟩
    clear e; induction r with
    | nil => exact .nil
    | cons h4 _ ih => exact .cons (h4.av hp) ih
  | ins fs =>
    obtain ⟨C, d, ents, hb, e, r⟩ := h
    refine ⟨C, d, ents, hb, by rw [upd_ne hne]; exact e, ?_⟩
    clear e; induction r with
    | nil => exact .nil
    | cons h4 _ ih => exact .cons (h4.av hp) ih
theorem RH.av {G : Pg} {B ρ L : List Addr} {H : Hp} {S : Sto} {p : Addr} {u : HO} (R : RH G B L ρ H S) (hp : p ∈ B) (hl : p ∉ L) : RH G B L ρ (upd H p u) S where
  len := R.len
  nd := R.nd
  dj := R.dj
  avo := fun b hb => by
    by_cases e : b = p
    · subst e; exact ⟨_, upd_same⟩
    · obtain ⟨u, q⟩ := R.avo b hb; exact ⟨u, by rw [upd_ne e]; exact q⟩
  lk := fun b hb => by
    obtain ⟨o, u, q⟩ := R.lk b hb
    exact ⟨o, u, by rw [upd_ne (by rintro rfl; exact hl hb)]; exact q⟩
  ob := fun n a o h1 h2 => (R.ob n a o h1 h2).av hp (by rintro rfl; exact R.dj _ (List.mem_of_getElem? h1) hp)
theorem RH.reB {G : Pg} {B B' ρ L : List Addr} {H : Hp} {S : Sto} (R : RH G B L ρ H S) (h : ∀ a, a ∈ B' → a ∈ B) : RH G B' L ρ H S where
  len := R.len
  nd := R.nd
  dj := fun a ha z => R.dj a ha (h a z)
  avo := fun b hb => R.avo b (h b hb)
  lk := R.lk
  ob := fun n a o h1 h2 => (R.ob n a o h1 h2).re (fun a z => z.imp (h a) id) fun _ _ z => z
/-- a list that was avoided comes into the store -/
theorem RH.addL {G : Pg} {B ρ L : List Addr} {H : Hp} {S : Sto} {p : Addr} {xs : List D} {vs : List V} (R : RH G (p :: B) L ρ H S) (hb : p ∉ B) (e : H p = some (.lst vs)) (r : RVs G.K (p :: B) ρ H xs vs) : RH G B L (ρ ++ [p]) H (S ++ [.lst xs]) := by
  have hB : ∀ a, a ∈ B ∨ a ∈ ρ ++ [p] → a ∈ p :: B ∨ a ∈ ρ := fun a z => z.elim (fun z => .inl (List.mem_cons_of_mem _ z)) fun z => (List.mem_append.mp z).elim .inr fun z => .inl (by simp at z; rw [z]; exact List.mem_cons_self)
  have hp : ∀ (n : Nat) (a : Addr), ρ[n]? = some a → (ρ ++ [p])[n]? = some a := fun n a z => by rw [List.getElem?_append_left (List.getElem?_eq_some_iff.mp z).1]; exact z
  refine ⟨by simp [R.len], ?_, fun a ha => (List.mem_append.mp ha).elim (fun z q => R.dj a z (List.mem_cons_of_mem _ q)) fun z => by simp at z; rw [z]; exact hb, fun b hb => R.avo b (List.mem_cons_of_mem _ hb), R.lk, fun n a o h1 h2 => ?_⟩
  · rw [List.nodup_append]
    refine ⟨R.nd, by simp, fun a ha b hb => ?_⟩
    simp at hb; subst hb
    rintro rfl
    exact R.dj _ ha List.mem_cons_self
  · by_cases hn : n < ρ.length
    · rw [List.getElem?_append_left hn] at h1
      rw [List.getElem?_append_left (by rw [← R.len]; exact hn)] at h2
      exact (R.ob n a o h1 h2).re hB hp
    · have hn' : n = ρ.length := by
        have := (List.getElem?_eq_some_iff.mp h1).1
        simp at this; omega
      subst hn'
      rw [List.getElem?_append_right (Nat.le_refl _)] at h1
      rw [R.len, List.getElem?_append_right (Nat.le_refl _)] at h2
      simp at h1 h2
      subst h1; subst h2
      exact ⟨vs, e, r.re hB hp⟩
theorem RH.addB {G : Pg} {B ρ L : List Addr} {H : Hp} {S : Sto} {p : Addr} {u : HO} (R : RH G B L ρ H S) (hn : H p = none) : RH G (p :: B) L ρ (upd H p u) S := by
  have q := R.newV (o := u) hn
  refine ⟨q.len, q.nd, fun a ha z => (List.mem_cons.mp z).elim (fun z => (R.fresh hn).1 (z ▸ ha)) (q.dj a ha), fun b hb => (List.mem_cons.mp hb).elim (fun z => ⟨u, by subst z; exact upd_same⟩) (q.avo b), q.lk, fun n a o h1 h2 => ?_⟩
  have q1 := R.ob n a o h1 h2
  obtain ⟨u, hu⟩ := R.there h1
  have hne : a ≠ p := ne_of_none hu hn
  cases o with
  | lst ds => obtain ⟨vs, e, r⟩ := q1; exact ⟨vs, by rw [upd_ne hne]; exact e, r.addB hn⟩
  | dct lk kvs =>
    obtain ⟨ents, e, r⟩ := q1
    refine ⟨ents, by unfold LkAt at e ⊢; rw [upd_ne hne]; exact e, ?_⟩
    clear e h2; induction r with
    | nil => exact .nil
    | cons h1 h2 h3 h4 _ ih => exact .cons h1 (h2.addB hn) h3 (h4.addB hn) ih
  | dki lk kvs =>
    obtain ⟨ents, e, r⟩ := q1
    refine ⟨ents, by unfold LkAt at e ⊢; rw [upd_ne hne]; exact e, ?_⟩
    clear e h2; induction r with
    | nil => exact .nil
    | cons h4 _ ih => exact .cons (h4.addB hn) ih
  | ins fs =>
    obtain ⟨C, d, ents, hb, e, r⟩ := q1
    refine ⟨C, d, ents, hb, by rw [upd_ne hne]; exact e, ?_⟩
    clear e h2; induction r with
    | nil => exact .nil
    | cons h4 _ ih => exact .cons (h4.addB hn) ih
theorem RE.av {K : PySem.W.Frag} {B ρ : List Addr} {H : Hp} {env : En} {σ : L2.St} {p : Addr} {o : HO} (h : RE K B ρ H env σ) (hp : p ∈ B) : RE K B ρ (upd H p o) env σ :=
  ⟨h.len, fun i d e => (h.at' i d e).imp id fun ⟨v, e1, r⟩ => ⟨v, e1, r.av hp⟩⟩
theorem RE.addB {K : PySem.W.Frag} {B ρ : List Addr} {H : Hp} {env : En} {σ : L2.St} {p : Addr} {o : HO} (h : RE K B ρ H env σ) (hn : H p = none) : RE K (p :: B) ρ (upd H p o) env σ :=
  ⟨h.len, fun i d e => (h.at' i d e).imp id fun ⟨v, e1, r⟩ => ⟨v, e1, r.addB hn⟩⟩
def W0 : WX := fun _ _ _ _ => False
section
variable {X : Cx} {w : Wx} {tg iter elt : Expr} {ifs : List Expr} {fi : FA} {g : D → En → Option En} {t : TG} {is : List Nat} {ft : FT} {fe : FE} {pos : Pos}
theorem wipe_idem {σ : L2.St} : ∀ vs : List Nat, wipe (wipe σ vs) vs = wipe σ vs := by
  intro vs
  apply List.ext_getElem?
  intro i
  by_cases hi : i ∈ vs
  · have key : ∀ (σ : L2.St) (vs : List Nat), i ∈ vs → i < σ.length → (wipe σ vs)[i]? = some none := by
      intro σ vs
      induction vs with
      | nil => intro h; exact nomatch h
      | cons a vs ih =>
        intro h hl
        unfold L2.wipe
        by_cases ha : a = i
        · subst ha; rw [List.getElem?_set_self (by rw [wipe_length]; exact hl)]
        · rw [List.getElem?_set_ne ha]
          exact ih ((List.mem_cons.mp h).resolve_left (Ne.symm ha)) hl
    by_cases hl : i < σ.length
    · rw [key _ vs hi (by rw [wipe_length]; exact hl), key σ vs hi hl]
    · rw [List.getElem?_eq_none (by rw [wipe_length, wipe_length]; omega), List.getElem?_eq_none (by rw [wipe_length]; omega)]
  · rw [wipe_out hi, wipe_out hi]
abbrev SPT (X : Cx) (w : Wx) (ifs : List Expr) (f : FT) : Prop := PTs X ifs (tT (pg X) w.W w.xm f)
theorem spt_nil : SPT X w [] tYesF := ⟨fun pins s σ H Q I ⟨B, L, ρ, S, env, A, g⟩ => pts_nil.run pins s σ H Q I (g true ρ H Post.refl A.rh rfl)⟩
theorem spt_one {c : Expr} (h : ST X w c ft) : SPT X w [c] ft := pts_one h
/-- the reading of a comprehension -/
theorem comp_ok {m : Bool} {vs : List Nat} (hg : TgOk X.K t g is) (hv : ∀ i ∈ is, i ∈ vs) {σ : L2.St} {H : Hp} {Q : VK} (h : tE (pg X) w.W w.xm (fComp m fi g ft fe vs) σ H Q) :
    tLc (tI (pg X) w.W w.xm fi) t (tT (pg X) W0 w.xm ft) (tE (pg X) W0 w.xm fe) vs σ H Q := by
  obtain ⟨B, L, ρ, S, env, A, gg⟩ := h
  refine ⟨B, L, ρ, S, env, A, ?_⟩
  revert gg
  unfold fComp
  cases fi env S with
  | exc c S' => exact fun g => g
  | bad => exact fun g => g
  | ok l S' =>
    rintro gg J ρ1 H1 p R ⟨I, wk, i0⟩ D hD
    have g1 := GO.step gg p
    revert g1
    show GO (pg X) w.W w.xm B L ρ1 H1 σ (rD (pg X) B) (bif fit l.length then
      (match compL g ft fe (undE env vs) l S' with
      | .ok xs S2 => bif m then Out.ok (.loc S2.length) (S2 ++ [.lst xs]) else .ok (.lst xs) S2
      | _ => .bad) else .bad) Q → _
    cases hfit : fit l.length with
    | false => exact fun g => g.elim
    | true =>
    intro g1
    have A1 := A.step p R
    cases hc : compL g ft fe (undE env vs) l S' with
    | exc c S2 => rw [hc] at g1; exact g1.elim
    | bad => rw [hc] at g1; exact g1.elim
    | ok xs S2 =>
    have g2 : GO (pg X) w.W w.xm B L ρ1 H1 σ (rD (pg X) B) (bif m then Out.ok (.loc S2.length) (S2 ++ [.lst xs]) else .ok (.lst xs) S2) Q := by
      rw [hc] at g1; exact g1
    have hDB : D ∉ B := (R.fresh hD).2
    have hDL : D ∉ L := fun z => by obtain ⟨o, u, q⟩ := R.lk D z; rw [hD] at q; cases q
    refine ⟨fun i m H => ∃ ρ S acc accD ys, RH (pg X) (D :: B) L ρ H S ∧ RE X.K (D :: B) ρ H (undE env vs) (wipe σ vs) ∧ I (D :: B) ρ H ∧ H D = some (.lst acc) ∧ RVs X.K (D :: B) ρ H accD acc ∧ accD.length ≤ i ∧ i ≤ l.length ∧ m = l.length - i ∧
      Post L ρ1 H1 ρ H ∧ compL g ft fe (undE env vs) (l.drop i) S = .ok ys S2 ∧ accD ++ ys = xs,
      ⟨l.length, ρ1, S', [], [], xs, R.addB hD, (A1.re.wipe vs).addB hD, wk.addB _ _ _ _ _ hD i0, upd_same, .nil, Nat.zero_le _, Nat.zero_le _, rfl, Post.newV hD, hc, rfl⟩, ?_⟩
    rintro i k H ⟨ρ, S, acc, accD, ys, RH1, re1, i1, hDa, ra, hai, hil, rfl, ps, hcl, hxs⟩
    by_cases hlt : i < l.length
    · refine .inr ⟨wk.go _ ρ H i i1 hlt, fun H => ∃ ρ S acc accD ys, RH (pg X) (D :: B) L ρ H S ∧ RE X.K (D :: B) ρ H (undE env vs) (wipe σ vs) ∧ I (D :: B) ρ H ∧ H D = some (.lst acc) ∧ RVs X.K (D :: B) ρ H accD acc ∧ accD.length ≤ i + 1 ∧
          Post L ρ1 H1 ρ H ∧ compL g ft fe (undE env vs) (l.drop (i + 1)) S = .ok ys S2 ∧ accD ++ ys = xs,
        fun H' ⟨ρ, S, acc, accD, ys, h1, h2, h3, h4, h5, h6, h7, h8, h9⟩ => ⟨l.length - (i + 1), by omega, ρ, S, acc, accD, ys, h1, h2, h3, h4, h5, h6, hlt, rfl, h7, h8, h9⟩, ?_⟩
      intro x H3 y
      obtain ⟨p3, R3, r3⟩ := wk.yld _ ρ S H H3 i l[i] x i1 RH1 (List.getElem?_eq_getElem hlt) y
      rw [List.drop_eq_getElem_cons hlt] at hcl
      unfold compL at hcl
      cases hu : g l[i] (undE env vs) with
      | none => rw [hu] at hcl; cases hcl
      | some env1 =>
        rw [hu] at hcl
        simp only at hcl
        refine hg (D :: B) L ρ H3 l[i] x (undE env vs) env1 (wipe σ vs) _ r3 (re1.mono p3) hu fun σ3 re3 hw => ⟨(hw vs hv).trans (wipe_idem vs), ?_⟩
        cases ht : ft env1 S with
        | exc c S3 => rw [ht] at hcl; cases hcl
        | bad => rw [ht] at hcl; cases hcl
        | ok b S3 =>
          rw [ht] at hcl
          refine ⟨D :: B, L, ρ, S, env1, ⟨R3, re3⟩, ?_⟩
          rw [ht]
          intro b' ρ4 H4 p4 R4 hb
          have hb : b = b' := hb
          subst hb
          have hDρ : D ∉ ρ := fun z => RH1.dj D z List.mem_cons_self
          have e4 : H4 D = some (.lst acc) := p4.ext D _ (.inl hDρ) (p3.ext D _ (.inl hDρ) hDa)
          cases b with
          | false =>
            refine iteF ?_
            simp only at hcl
            exact ⟨ρ4, S3, acc, accD, ys, R4, (re1.mono p3).mono p4, wk.mono _ _ _ _ _ p4 (wk.mono _ _ _ _ _ p3 i1), e4, RVs.mono p4 _ _ (RVs.mono p3 _ _ ra), Nat.le_succ_of_le hai, ps.trans (p3.trans p4), hcl, hxs⟩
          | true =>
            refine iteT ?_
            simp only at hcl
            cases he : fe env1 S3 with
            | exc c S5 => rw [he] at hcl; cases hcl
            | bad => rw [he] at hcl; cases hcl
            | ok z S5 =>
              rw [he] at hcl
              simp only at hcl
              cases hcr : compL g ft fe (undE env vs) (l.drop (i + 1)) S5 with
              | exc c S6 => rw [hcr] at hcl; cases hcl
              | bad => rw [hcr] at hcl; cases hcl
              | ok zs S6 =>
                rw [hcr] at hcl
                cases hcl
                refine ⟨D :: B, L, ρ4, S3, env1, ⟨R4, re3.mono p4⟩, ?_⟩
                rw [he]
                intro y5 ρ5 H5 p5 R5 r5
                have hD4 : D ∉ ρ4 := fun z => R4.dj D z List.mem_cons_self
                have e5 : H5 D = some (.lst acc) := p5.ext D _ (.inl hD4) e4
                have ps5 : Post L ρ1 H1 ρ5 H5 := ps.trans (p3.trans (p4.trans p5))
                refine ⟨acc, e5, ?_, ρ5, S5, acc ++ [y5], accD ++ [z], zs, R5.av List.mem_cons_self hDL, (((re1.mono p3).mono p4).mono p5).av List.mem_cons_self, wk.av _ _ _ _ _ List.mem_cons_self (wk.mono _ _ _ _ _ p5 (wk.mono _ _ _ _ _ p4 (wk.mono _ _ _ _ _ p3 i1))), upd_same,
                  ((RVs.mono p5 _ _ (RVs.mono p4 _ _ (RVs.mono p3 _ _ ra))).append (.cons r5 .nil)).av List.mem_cons_self, by simp; omega, ⟨fun a u ha hu => ?_, ps5.pre, ps5.new⟩, hcr, by rw [← hxs]; simp⟩
                · rw [← ra.length]
                  have := fit_le hfit
                  omega
                · rw [upd_ne (ne_of_none hu hD)]
                  exact ps5.ext a u ha hu
    · have hi : i = l.length := by omega
      subst hi
      refine .inl ⟨wk.stop _ ρ H i1, ?_⟩
      rw [List.drop_length] at hcl
      cases hcl
      rw [List.append_nil] at hxs
      subst hxs
      have hDρ : D ∉ ρ := fun z => RH1.dj D z List.mem_cons_self
      cases m with
      | false => exact g2 (.ref D) ρ H ps (RH1.reB fun a z => List.mem_cons_of_mem _ z) (.lst hDB hDρ hDa (ra.re (fun a z => z.imp (List.mem_cons_of_mem _) id) fun _ _ z => z))
      | true =>
        refine g2 (.ref D) (ρ ++ [D]) H ⟨ps.ext, ?_, fun a z => (List.mem_append.mp z).elim (ps.new a) fun z => ?_⟩ (RH1.addL hDB hDa ra) (.loc ?_)
        · obtain ⟨tt, e⟩ := ps.pre; exact ⟨tt ++ [D], by rw [e, List.append_assoc]⟩
        · simp at z; rw [z]; exact .inr hD
        · rw [← RH1.len, List.getElem?_append_right (Nat.le_refl _)]; simp
end
end Sf
end

section
set_option Elab.async false
set_option maxRecDepth 100000
set_option linter.all false
/-! Sf7: comprehensions as values, functions, calls. -/
namespace Sf
open PySem PySem.Spec PyProof.Rows L2 RZ

/-- within a comprehension's block no exception leaves -/
abbrev wB (w : Wx) : Wx := ⟨W0, w.xm⟩
section
variable {X : Cx} {w : Wx} {tg iter elt : Expr} {ifs : List Expr} {fi : FA} {g : D → En → Option En} {t : TG} {is : List Nat} {ft : FT} {fe : FE} {pos : Pos} {scope : Scope} {own : List (Str × Nat)}
theorem se_lc {m : Bool} (hc : X.calm = true) (hN : X.N.Nodup) (ok : BlkOk X.N X.env.scope scope own) (hv : ∀ i ∈ is, i ∈ own.map (·.2)) (hi : SI X w tg iter fi)
    (hg : ∀ (s : Shared) (H : Hp) (C : Addr) (cl : List (Str × Addr)) (fp : List Addr), PG (X.blk s H scope (compEnvC scope cl C X.env) fp) tg t) (hk : TgOk X.K t g is)
    (ht : ∀ (s : Shared) (H : Hp) (C : Addr) (cl : List (Str × Addr)) (fp : List Addr), SPT (X.blk s H scope (compEnvC scope cl C X.env) fp) (wB w) ifs ft)
    (he : ∀ (s : Shared) (H : Hp) (C : Addr) (cl : List (Str × Addr)) (fp : List Addr), SE (X.blk s H scope (compEnvC scope cl C X.env) fp) (wB w) elt fe) (hs : ∀ x, foldedSetIterable iter X.env x = pure x := by intro _; rfl) :
    SE X w (.ListComp elt [⟨tg, iter, ifs, 0⟩] scope pos) (fComp m fi g ft fe (own.map (·.2))) :=
  PE.imp (pe_lc hc hN hi ok hg ht he hs) fun σ H Q h =>
    comp_ok (X := X) (w := w) (is := is) hk hv h
theorem ss_setLc {m : Bool} {i : Nat} {y : Str} {py spos : Pos} (hc : X.calm = true) (hN : X.N.Nodup) (hy : X.N[i]? = some y) (hyl : X.env.scope.names.lookup y = some .local) (hsw : swapsWith (.ListComp elt [⟨tg, iter, ifs, 0⟩] scope pos) (some (.Name y py)) spos.line X.env = pure true)
    (ok : BlkOk X.N X.env.scope scope own) (hv : ∀ i ∈ is, i ∈ own.map (·.2)) (hi : SI X w tg iter fi)
    (hg : ∀ (s : Shared) (H : Hp) (C : Addr) (cl : List (Str × Addr)) (fp : List Addr), PG (X.blk s H scope (compEnvC scope cl C X.env) fp) tg t) (hk : TgOk X.K t g is)
    (ht : ∀ (s : Shared) (H : Hp) (C : Addr) (cl : List (Str × Addr)) (fp : List Addr), SPT (X.blk s H scope (compEnvC scope cl C X.env) fp) (wB w) ifs ft)
    (he : ∀ (s : Shared) (H : Hp) (C : Addr) (cl : List (Str × Addr)) (fp : List Addr), SE (X.blk s H scope (compEnvC scope cl C X.env) fp) (wB w) elt fe) (hs : ∀ x, foldedSetIterable iter X.env x = pure x := by intro _; rfl) :
    SS X w (.Assign [.Name y py] (.ListComp elt [⟨tg, iter, ifs, 0⟩] scope pos) spos) (sAsg i (fComp m fi g ft fe (own.map (·.2)))) :=
  ss_set' (ps_setLc hc hN hy hyl hsw hi ok hg ht he hs) fun σ H Q h =>
    comp_ok (X := X) (w := w) (is := is) hk hv h
end

/-! ### functions -/
abbrev Fn := List D → Sto → Out D
mutual
/-- all places below n -/
def lowD (n : Nat) : D → Bool
  | .tup l => lowL n l
  | .lst l => lowL n l
  | .scr l => lowL n l
  | .loc k => Nat.blt k n
  | _ => true
def lowL (n : Nat) : List D → Bool
  | [] => true
  | d :: r => lowD n d && lowL n r
end
def lowO (n : Nat) : Ob → Bool
  | .lst l => lowL n l
  | .dct _ kvs => kvs.all fun p => lowD n p.1 && lowD n p.2
  | .dki _ kvs => kvs.all fun p => lowD n p.2
  | .ins fs => fs.all fun p => lowD n p.2
def mapO (f : D → Option D) : List D → Option (List D)
  | [] => some []
  | d :: r => match f d, mapO f r with
    | some x, some xs => some (x :: xs)
    | _, _ => none
/-- the new lists as values -/
def frzD : Nat → Sto → Nat → D → Option D
  | 0, _, _, _ => none
  | k + 1, S, n, d => match d with
    | .tup l => (mapO (frzD k S n) l).map .tup
    | .lst l => (mapO (frzD k S n) l).map .lst
    | .scr l => (mapO (frzD k S n) l).map .scr
    | .loc i => bif Nat.blt i n then some (.loc i) else match S[i]? with
      | some (.lst l) => (mapO (frzD k S n) l).map .lst
      | _ => none
    | d => some d
def endF (n : Nat) (d : D) (S : Sto) : Out D := bif Nat.beq S.length n then .ok d S else match frzD 9 S n d with
  | some d' => bif (S.take n).all (lowO n) then .ok d' (S.take n) else .bad
  | none => .bad
/-- one new object is handed out -/
def endM (n : Nat) (d : D) (S : Sto) : Out D := match d with
  | .loc i => bif Nat.ble n i then match S[i]? with
    | some o => bif (S.take n).all (lowO n) && lowO n o then .ok (.loc n) (S.take n ++ [o]) else .bad
    | none => .bad else .bad
  | _ => .bad
def endX (n : Nat) (c : Nat) (S : Sto) : Out D := bif Nat.beq S.length n then .exc c S else bif (S.take n).all (lowO n) then .exc c (S.take n) else .bad
def fnEnd (m : Bool) (n : Nat) : SR → Out D
  | .rt d S => bif m then endM n d S else endF n d S
  | .nx _ S => endF n .non S
  | .xc c S => endX n c S
  | _ => .bad
def fn (m : Bool) (N : Nat) (b : FS) : Fn := fun ds S => fnEnd m S.length (b (ds ++ List.replicate (N - ds.length) .und) S)
section
variable {G : Pg} {B L ρ ρ' : List Addr} {H : Hp} {S : Sto}
theorem RV.low {K : PySem.W.Frag} {n : Nat} (hρ : ∀ a, a ∈ ρ' → a ∈ ρ) (hp : ∀ (i : Nat) (a : Addr), i < n → ρ[i]? = some a → ρ'[i]? = some a) : ∀ {d : D} {v : V}, RV K B ρ H d v → lowD n d = true → RV K B ρ' H d v := by
  intro d v h
  refine RV.rec (motive_1 := fun d v _ => lowD n d = true → RV K B ρ' H d v) (motive_2 := fun ds vs _ => lowL n ds = true → RVs K B ρ' H ds vs) (fun _ => .non) (fun b _ => .bl b) (fun i _ => .int i) (fun x _ => .str x) (fun h _ ih e => ?_) (fun h1 h2 h3 _ ih e => ?_) (fun h _ ih e => ?_) (fun h e => ?_) (fun h _ => .glob h) (fun _ => .nil) (fun _ _ ih1 ih2 e => ?_) h
  · exact .tup ⟨h.1, fun z => h.2.1 (hρ _ z), h.2.2⟩ (ih e)
  · exact .lst h1 (fun z => h2 (hρ _ z)) h3 (ih e)
  · exact .scr (h.imp (fun h => ⟨h.1, fun z => h.2.1 (hρ _ z), h.2.2⟩) id) (ih e)
  · exact .loc (hp _ _ (Nat.le_of_ble_eq_true e) h)
  · unfold lowL at e
    rw [Bool.and_eq_true] at e
    exact .cons (ih1 e.1) (ih2 e.2)
theorem RVs.low {K : PySem.W.Frag} {n : Nat} (hρ : ∀ a, a ∈ ρ' → a ∈ ρ) (hp : ∀ (i : Nat) (a : Addr), i < n → ρ[i]? = some a → ρ'[i]? = some a) : ∀ {ds : List D} {vs : List V}, RVs K B ρ H ds vs → lowL n ds = true → RVs K B ρ' H ds vs
  | _, _, .nil, _ => .nil
  | _, _, .cons h t, e => by
    unfold lowL at e
    rw [Bool.and_eq_true] at e
    exact .cons (h.low hρ hp e.1) (RVs.low hρ hp t e.2)
theorem RO.low {n : Nat} (hρ : ∀ a, a ∈ ρ' → a ∈ ρ) (hp : ∀ (i : Nat) (a : Addr), i < n → ρ[i]? = some a → ρ'[i]? = some a) {a : Addr} {o : Ob} (h : RO G B L ρ H a o) (e : lowO n o = true) : RO G B L ρ' H a o := by
  cases o with
  | lst ds => obtain ⟨vs, q, r⟩ := h; exact ⟨vs, q, r.low hρ hp e⟩
  | dct lk kvs =>
    obtain ⟨ents, q, r⟩ := h
    refine ⟨ents, q, ?_⟩
    have e := show List.all _ _ = true from e
    clear q; induction r with
    | nil => exact .nil
    | cons h1 h2 h3 h4 _ ih =>
      rw [List.all_cons, Bool.and_eq_true, Bool.and_eq_true] at e
      exact .cons h1 (h2.low hρ hp e.1.1) h3 (h4.low hρ hp e.1.2) (ih e.2 e.2)
  | dki lk kvs =>
    obtain ⟨ents, q, r⟩ := h
    refine ⟨ents, q, ?_⟩
    have e := show List.all _ _ = true from e
    clear q; induction r with
    | nil => exact .nil
    | cons h4 _ ih =>
      rw [List.all_cons, Bool.and_eq_true] at e
      exact .cons (h4.low hρ hp e.1) (ih e.2 e.2)
  | ins fs =>
    obtain ⟨C, d, ents, hb, q, r⟩ := h
    refine ⟨C, d, ents, hb, q, ?_⟩
    have e := show List.all _ _ = true from e
    clear q; induction r with
    | nil => exact .nil
    | cons h4 _ ih =>
      rw [List.all_cons, Bool.and_eq_true] at e
      exact .cons (h4.low hρ hp e.1) (ih e.2 e.2)
/-- the store's first part alone -/
theorem RH.cut {t : List Addr} (R : RH G B L (ρ ++ t) H S) (e : (S.take ρ.length).all (lowO ρ.length) = true) : RH G B L ρ H (S.take ρ.length) := by
  have hl := R.len
  rw [List.length_append] at hl
  refine ⟨by rw [List.length_take]; omega, (List.nodup_append.mp R.nd).1, fun a ha => R.dj a (List.mem_append_left _ ha), R.avo, R.lk, fun n a o h1 h2 => ?_⟩
  have hn : n < ρ.length := (List.getElem?_eq_some_iff.mp h1).1
  have h2' : S[n]? = some o := by rw [List.getElem?_take_of_lt hn] at h2; exact h2
  have h1' : (ρ ++ t)[n]? = some a := by rw [List.getElem?_append_left hn]; exact h1
  exact (R.ob n a o h1' h2').low (fun a z => List.mem_append_left _ z) (fun i a hi z => by rw [List.getElem?_append_left hi] at z; exact z) (List.all_eq_true.mp e o (List.mem_of_getElem? h2))
theorem Post.cut {L t : List Addr} {H' : Hp} (p : Post L ρ H (ρ ++ t) H') : Post L ρ H ρ H' := ⟨p.ext, ⟨[], by simp⟩, fun _ h => .inl h⟩
theorem mapO_ok {K : PySem.W.Frag} {f : D → Option D} (h : ∀ d d' v, RV K B ρ' H d v → f d = some d' → RV K B ρ H d' v) : ∀ {ds ds' : List D} {vs : List V}, RVs K B ρ' H ds vs → mapO f ds = some ds' → RVs K B ρ H ds' vs
  | [], _, _, .nil, e => by cases e; exact .nil
  | d :: ds, ds', _, .cons r t, e => by
    unfold mapO at e
    cases e1 : f d with
    | none => rw [e1] at e; cases e
    | some x =>
      cases e2 : mapO f ds with
      | none => rw [e1, e2] at e; cases e
      | some xs => rw [e1, e2] at e; cases e; exact .cons (h _ _ _ r e1) (mapO_ok h t e2)
theorem frz_ok {t : List Addr} (R : RH G B L (ρ ++ t) H S) : ∀ (k : Nat) (d d' : D) (v : V), RV G.K B (ρ ++ t) H d v → frzD k S ρ.length d = some d' → RV G.K B ρ H d' v := by
  intro k
  induction k with
  | zero => intro d d' v _ e; cases e
  | succ k ih =>
    intro d d' v r e
    unfold frzD at e
    have out : ∀ a, a ∉ ρ ++ t → a ∉ ρ := fun a h z => h (List.mem_append_left _ z)
    cases r with
    | non => cases e; exact .non
    | bl b => cases e; exact .bl b
    | int b => cases e; exact .int b
    | str b => cases e; exact .str b
    | glob h => cases e; exact .glob h
    | @tup a vs ds h r =>
      simp only at e
      cases q : mapO (frzD k S ρ.length) ds with
      | none => rw [q] at e; cases e
      | some xs => rw [q] at e; cases e; exact .tup ⟨h.1, out _ h.2.1, h.2.2⟩ (mapO_ok (fun d d' v r e => ih d d' v r e) r q)
    | @lst a vs ds h1 h2 h3 r =>
      simp only at e
      cases q : mapO (frzD k S ρ.length) ds with
      | none => rw [q] at e; cases e
      | some xs => rw [q] at e; cases e; exact .lst h1 (out _ h2) h3 (mapO_ok (fun d d' v r e => ih d d' v r e) r q)
    | @scr a vs ds h r =>
      simp only at e
      cases q : mapO (frzD k S ρ.length) ds with
      | none => rw [q] at e; cases e
      | some xs => rw [q] at e; cases e; exact .scr (h.imp (fun h => ⟨h.1, out _ h.2.1, h.2.2⟩) id) (mapO_ok (fun d d' v r e => ih d d' v r e) r q)
    | @loc i a h =>
      simp only at e
      cases hb : Nat.blt i ρ.length with
      | true =>
        rw [hb] at e; cases e
        have hi : i < ρ.length := Nat.le_of_ble_eq_true hb
        rw [List.getElem?_append_left hi] at h
        exact .loc h
      | false =>
        rw [hb] at e
        simp only [cond_false] at e
        have hi : ρ.length ≤ i := by
          rcases Nat.lt_or_ge i ρ.length with z | z
          · have : Nat.blt i ρ.length = true := Nat.ble_eq_true_of_le z
            rw [hb] at this; cases this
          · exact z
        cases q : S[i]? with
        | none => rw [q] at e; cases e
        | some o =>
          rw [q] at e
          cases o with
          | lst l =>
            simp only at e
            obtain ⟨vs, h1, h2⟩ := R.ob i a _ h q
            cases q2 : mapO (frzD k S ρ.length) l with
            | none => rw [q2] at e; cases e
            | some xs =>
              rw [q2] at e; cases e
              have hm : a ∈ ρ ++ t := List.mem_of_getElem? h
              have ha : a ∉ ρ := fun z => by
                obtain ⟨j, hj⟩ := List.mem_iff_getElem?.mp z
                have hjl := (List.getElem?_eq_some_iff.mp hj).1
                have : (ρ ++ t)[j]? = some a := by rw [List.getElem?_append_left hjl]; exact hj
                have := L2.nd_ix R.nd this h
                omega
              exact .lst (R.dj a hm) ha h1 (mapO_ok (fun d d' v r e => ih d d' v r e) h2 q2)
          | _ => cases e
end

/-! ### what a function's def promises -/
def spOf (G : Pg) (xm : XM) (n : Nat) (F : Fn) : Sp := fun vs H Q E => vs.length = n ∧ ∃ B L ρ S ds, RH G B L ρ H S ∧ RVs G.K B ρ H ds vs ∧
  match F ds S with
  | .ok d S' => ∀ v ρ' H', Post L ρ H ρ' H' → RH G B L ρ' H' S' → RV G.K B ρ' H' d v → Q v H'
  | .exc c S' => ∀ ρ' H', Post L ρ H ρ' H' → RH G B L ρ' H' S' → E (xm c) none H'
  | .bad => False
section
variable {P : Program} {w : World} {K : PySem.W.Frag} {mg : Str → Option Value} {base : Heap}
theorem fn_ok {x qual : Str} {st : Stmt} {f : Addr} {fd : FuncData} {N ps : List Str} {k : Nat} {m : Bool} {b : FS} (xm : XM) (F : Fun K x qual st f fd) (Sc : FnScope N ps (defScope st))
    (h : ∀ (cdv : Value) (A : Around) (outer : List PySem.Env) (s : Shared) (H : Hp) (E : XK) (W : WX), Room k (A.deeper (envOfC qual (defScope st) s.heap.objs.size f cdv)) →
      Takes (cxOf (L2.CX P w) P w K mg base N qual (defScope st) f cdv A outer s H E) W → SSs (cxOf (L2.CX P w) P w K mg base N qual (defScope st) f cdv A outer s H E) ⟨W, xm⟩ (defBody st) b) :
    FnOk P w K mg base (L2.CX P w) (k + 1) f fd ps (spOf ⟨P, w, K⟩ xm ps.length (fn m N.length b)) := by
  refine F.okX Sc (fun vs H Q E h => h.1) (fun cdv A outer s H vs Q E hr hs => ?_)
  have tk : Takes (cxOf (L2.CX P w) P w K mg base N qual (defScope st) f cdv A outer s H E) (fun cls d _ H => E cls d H) := takes_of rfl rfl rfl rfl
  refine ⟨_, h cdv A outer s H E _ hr tk, ?_⟩
  obtain ⟨hl, B, L, ρ, S, ds, R, rv, g⟩ := hs
  have hNl : ps.length ≤ N.length := by have := congrArg List.length Sc.pre; rw [List.length_take] at this; omega
  refine ⟨B, L, ρ, S, ds ++ List.replicate (N.length - ds.length) .und, ⟨R, ⟨?_, fun i d e => ?_⟩⟩, ?_⟩
  · unfold L2.start
    rw [List.length_append, List.length_append, List.length_map, List.length_replicate, List.length_replicate, rv.length]
  · by_cases hi : i < ds.length
    · rw [List.getElem?_append_left hi] at e
      obtain ⟨v, e1, r1⟩ := rv.get e
      refine .inr ⟨v, ?_, r1⟩
      unfold L2.start
      rw [List.getElem?_append_left (by rw [List.length_map, ← rv.length]; exact hi), List.getElem?_map, e1]
      rfl
    · rw [List.getElem?_append_right (by omega)] at e
      exact .inl (List.eq_of_mem_replicate (List.mem_of_getElem? e))
  · revert g
    unfold fn
    have endF_ok : ∀ {d : D} {v : V} {ρ' : List Addr} {H' : Hp} {S' : Sto}, (match endF S.length d S' with
        | .ok d S' => ∀ v ρ' H', Post L ρ H ρ' H' → RH ⟨P, w, K⟩ B L ρ' H' S' → RV K B ρ' H' d v → Q v H'
        | .exc c S' => ∀ ρ' H', Post L ρ H ρ' H' → RH ⟨P, w, K⟩ B L ρ' H' S' → E (xm c) none H'
        | .bad => False) → Post L ρ H ρ' H' → RH ⟨P, w, K⟩ B L ρ' H' S' → RV K B ρ' H' d v → Q v H' := by
      intro d v ρ' H' S' g p R' r'
      unfold endF at g
      cases hb : Nat.beq S'.length S.length with
      | true => rw [hb] at g; exact g v ρ' H' p R' r'
      | false =>
        rw [hb] at g
        simp only [cond_false] at g
        obtain ⟨t, rfl⟩ := p.pre
        cases hf : frzD 9 S' S.length d with
        | none => rw [hf] at g; exact g.elim
        | some d' =>
          rw [hf] at g
          simp only at g
          cases hl : (S'.take S.length).all (lowO S.length) with
          | false => rw [hl] at g; exact g.elim
          | true =>
            rw [hl] at g
            rw [← R.len] at hf hl g
            exact g v ρ H' p.cut (R'.cut hl) (frz_ok R' 9 d d' v r' hf)
    cases b (ds ++ List.replicate (N.length - ds.length) .und) S with
    | nx env' S' => exact fun g σ' ρ' H' p R' re => endF_ok g p R' .non
    | bk env' S' => exact fun g => g.elim
    | ct env' S' => exact fun g => g.elim
    | bad => exact fun g => g.elim
    | xc c S' =>
      intro g σ' ρ' H' p R'
      unfold fnEnd endX at g
      simp only at g
      cases hb : Nat.beq S'.length S.length with
      | true => rw [hb] at g; exact g ρ' H' p R'
      | false =>
        rw [hb] at g
        simp only [cond_false] at g
        obtain ⟨t, rfl⟩ := p.pre
        cases hl : (S'.take S.length).all (lowO S.length) with
        | false => rw [hl] at g; exact g.elim
        | true =>
          rw [hl] at g
          rw [← R.len] at hl g
          exact g ρ H' p.cut (R'.cut hl)
    | rt d S' =>
      cases m with
      | false => exact fun g v ρ' H' p R' r' => endF_ok g p R' r'
      | true =>
        intro g v ρ' H' p R' r'
        unfold fnEnd endM at g
        simp only [cond_true] at g
        cases r' with
        | @loc i a h =>
          simp only at g
          cases hb : Nat.ble S.length i with
          | false => rw [hb] at g; exact g.elim
          | true =>
            rw [hb] at g
            simp only [cond_true] at g
            have hi : S.length ≤ i := Nat.le_of_ble_eq_true hb
            cases q : S'[i]? with
            | none => rw [q] at g; exact g.elim
            | some o =>
              rw [q] at g
              simp only at g
              cases hl : ((S'.take S.length).all (lowO S.length) && lowO S.length o) with
              | false => rw [hl] at g; exact g.elim
              | true =>
                rw [hl] at g
                rw [Bool.and_eq_true] at hl
                obtain ⟨t, rfl⟩ := p.pre
                rw [← R.len] at hl g hi
                have R2 := R'.cut hl.1
                have hm : a ∈ ρ ++ t := List.mem_of_getElem? h
                have ha : a ∉ ρ := fun z => by
                  obtain ⟨j, hj⟩ := List.mem_iff_getElem?.mp z
                  have hjl := (List.getElem?_eq_some_iff.mp hj).1
                  have : (ρ ++ t)[j]? = some a := by rw [List.getElem?_append_left hjl]; exact hj
                  have := L2.nd_ix R'.nd this h
                  omega
                have hsub : ∀ b, b ∈ ρ ++ [a] → b ∈ ρ ++ t := fun b hb => (List.mem_append.mp hb).elim (List.mem_append_left _) fun z => by simp at z; rw [z]; exact hm
                refine g (.ref a) (ρ ++ [a]) H' ⟨p.ext, ⟨[a], rfl⟩, fun b hb => p.new b (hsub b hb)⟩ ⟨?_, ?_, fun b hb => R'.dj b (hsub b hb), R'.avo, R'.lk, fun n b ob h1 h2 => ?_⟩ (.loc ?_)
                · have := R2.len
                  simp only [List.length_append, List.length_cons, List.length_nil]
                  omega
                · rw [List.nodup_append]
                  refine ⟨R2.nd, by simp, fun b hb c hc => ?_⟩
                  simp at hc; subst hc
                  rintro rfl
                  exact ha hb
                · have lift : ∀ {ob : Ob}, lowO ρ.length ob = true → RO ⟨P, w, K⟩ B L (ρ ++ t) H' b ob → RO ⟨P, w, K⟩ B L (ρ ++ [a]) H' b ob := fun e q =>
                    q.low hsub (fun j c hj z => by rw [List.getElem?_append_left hj] at z; rw [List.getElem?_append_left hj]; exact z) e
                  by_cases hn : n < ρ.length
                  · rw [List.getElem?_append_left hn] at h1
                    rw [List.getElem?_append_left (by rw [← R2.len]; exact hn)] at h2
                    have h2' : S'[n]? = some ob := by rw [List.getElem?_take_of_lt hn] at h2; exact h2
                    exact lift (List.all_eq_true.mp hl.1 ob (List.mem_of_getElem? h2)) (R'.ob n b ob (by rw [List.getElem?_append_left hn]; exact h1) h2')
                  · have hn' : n = ρ.length := by
                      have := (List.getElem?_eq_some_iff.mp h1).1
                      simp at this; omega
                    subst hn'
                    have e1 : (S'.take ρ.length).length = ρ.length := R2.len.symm
                    rw [List.getElem?_append_right (Nat.le_refl _)] at h1
                    rw [List.getElem?_append_right (by rw [e1]; exact Nat.le_refl _), e1] at h2
                    simp only [Nat.sub_self, List.getElem?_cons_zero, Option.some.injEq] at h1 h2
                    subst h1; subst h2
                    exact lift hl.2 (R'.ob i a o h q)
                · rw [List.getElem?_append_right (Nat.le_refl _)]; simp
        | _ => exact g.elim
/-- a def that is never reached at this depth -/
theorem fn_bad {k : Nat} {f : Addr} {fd : FuncData} {ps : List Str} {xm : XM} {n : Nat} (h : ps.length = n) : FnOk P w K mg base (L2.CX P w) k f fd ps (spOf ⟨P, w, K⟩ xm n fun _ _ => .bad) :=
  ⟨fun vs H Q E h' => h'.1.trans h.symm, fun A outer s H args us vs Q E _ _ _ _ h => let ⟨_, _, _, _, _, _, _, _, z⟩ := h; z.elim⟩
end

/-! ### calls -/
def fCall (F : Fn) (fs : FA) : FE := fun env S => (fs env S).bind fun ds S1 => F ds S1
def pureF (F : Fn) : Fn := fun ds S => bif lowL 0 ds then (match F ds [] with
  | .ok d [] => .ok d S
  | .exc c [] => .exc c S
  | _ => .bad) else .bad
section
variable {X : Cx} {w : Wx} {k n : Nat} {f : Addr} {fd : FuncData} {ps : List Str} {F : Fn} {x : Str} {p pos : Pos} {e : Expr} {es : List Expr} {fs : FA}
theorem se_call (FO : FnOk X.prog X.w X.K X.mg X.base (L2.CX X.prog X.w) k f fd ps (spOf (pg X) w.xm n F)) (hn : (e :: es).length = n) (tk : Takes X w.W) (hr : Room k X.A) (hm : X.mg x = some (.ref f)) (hk : PySem.W.keepIn X.K (.ref f) = true) (hb : Binds X.K fd ps [])
    (ha : SA X w (e :: es) fs) (hlen : ∀ env S ds S', fs env S = .ok ds S' → ds.length = n) (hg : Gl X x := by rfl) (hdb : (x == ("__debug__" : Str)) = false := by decide) (he : starEach (e :: es) X.env = (false, eval e X.env) :: starEach es X.env := by rfl) (hpl : (backTo pos (starEach es X.env)).any (·.1) = false := by rfl) :
    SE X w (.Call (.Name x p) (e :: es) [] pos) (fCall F fs) :=
  PE.imp (pe_callS FO hr hg hm hk hb (passAt tk) ha hdb he hpl) fun σ H Q ⟨B, L, ρ, S, env, A, g⟩ => by
    refine ⟨B, L, ρ, S, env, A, ?_⟩
    revert g
    unfold fCall
    cases hfs : fs env S with
    | exc c S' => exact fun g => g
    | bad => exact fun g => g
    | ok ds S' =>
      intro g vs ρ' H' pp R r
      have g' : GO (pg X) w.W w.xm B L ρ' H' σ (rD (pg X) B) (F ds S') Q := GO.step g pp
      refine ⟨by rw [← RVs.length r]; exact hlen _ _ _ _ hfs, B, L, ρ', S', ds, R, r, ?_⟩
      revert g'
      cases F ds S' with
      | ok d S2 => exact fun g => g
      | exc c S2 => exact fun g => g
      | bad => exact fun g => g
theorem spOf_pure {G : Pg} {xm : XM} {n : Nat} {F : Fn} {vs : List V} {H : Hp} {Q : VK} {E : XK} (h : spOf G xm n (pureF F) vs H Q E) : spOf G xm n F vs H Q E := by
  obtain ⟨hl, B, L, ρ, S, ds, R, r, g⟩ := h
  refine ⟨hl, B ++ ρ, L, [], [], ds, ⟨rfl, List.nodup_nil, (fun a z => nomatch z), fun b hb => (List.mem_append.mp hb).elim (R.avo b) R.someM, R.lk, fun n a o h => (by simp at h)⟩, ?_⟩
  unfold pureF at g
  cases hlow : lowL 0 ds with
  | false => rw [hlow] at g; exact g.elim
  | true =>
    rw [hlow] at g
    simp only [cond_true] at g
    refine ⟨?_, ?_⟩
    · -- the places that the caller may change are avoided
      have key : ∀ {d : D} {v : V}, RV G.K B ρ H d v → lowD 0 d = true → RV G.K (B ++ ρ) [] H d v := by
        intro d v h
        refine RV.rec (motive_1 := fun d v _ => lowD 0 d = true → RV G.K (B ++ ρ) [] H d v) (motive_2 := fun ds vs _ => lowL 0 ds = true → RVs G.K (B ++ ρ) [] H ds vs) (fun _ => .non) (fun b _ => .bl b) (fun i _ => .int i) (fun x _ => .str x) (fun h _ ih e => ?_) (fun h1 h2 h3 _ ih e => ?_) (fun h _ ih e => ?_) (fun h e => ?_) (fun h _ => .glob h) (fun _ => .nil) (fun _ _ ih1 ih2 e => ?_) h
        · exact .tup ⟨fun z => (List.mem_append.mp z).elim h.1 h.2.1, (fun z => nomatch z), h.2.2⟩ (ih e)
        · exact .lst (fun z => (List.mem_append.mp z).elim h1 h2) (fun z => nomatch z) h3 (ih e)
        · exact .scr (h.imp (fun h => ⟨fun z => (List.mem_append.mp z).elim h.1 h.2.1, (fun z => nomatch z), h.2.2⟩) id) (ih e)
        · exact absurd (Nat.le_of_ble_eq_true e) (Nat.not_succ_le_zero _)
        · unfold lowL at e
          rw [Bool.and_eq_true] at e
          exact .cons (ih1 e.1) (ih2 e.2)
      have keys : ∀ {ds : List D} {vs : List V}, RVs G.K B ρ H ds vs → lowL 0 ds = true → RVs G.K (B ++ ρ) [] H ds vs := by
        intro ds vs h
        induction ds generalizing vs with
        | nil => intro _; cases h; exact .nil
        | cons d ds ih =>
          cases h with
          | cons h t =>
            intro e
            unfold lowL at e
            rw [Bool.and_eq_true] at e
            exact .cons (key h e.1) (ih t e.2)
      exact keys r hlow
    · have back : ∀ {H' : Hp} {ρ' : List Addr}, Post L [] H ρ' H' → Post L ρ H ρ H' := fun p => ⟨fun a u _ => p.ext a u (.inl fun z => nomatch z), ⟨[], by simp⟩, fun _ h => .inl h⟩
      have backR : ∀ {H' : Hp} {ρ' : List Addr}, Post L [] H ρ' H' → RH G B L ρ H' S := fun p =>
        ⟨R.len, R.nd, R.dj, fun b hb => let ⟨u, e⟩ := R.avo b hb; ⟨u, p.ext b u (.inl fun z => nomatch z) e⟩, fun a ha => let ⟨o, u, e⟩ := R.lk a ha; ⟨o, u, p.ext a _ (.inl fun z => nomatch z) e⟩, fun n a o h1 h2 => by
          obtain ⟨u, e⟩ := R.there h1
          exact (R.ob n a o h1 h2).mono (back p) ((p.ext a u (.inl fun z => nomatch z) e).trans e.symm)⟩
      revert g
      cases F ds [] with
      | bad => exact fun g => g
      | exc c S' =>
        cases S' with
        | nil => exact fun g ρ' H' p R' => g ρ H' (back p) (backR p)
        | cons => exact fun g => g.elim
      | ok d S' =>
        cases S' with
        | nil =>
          intro g v ρ' H' p R' r'
          have hρ : ρ' = [] := List.eq_nil_of_length_eq_zero R'.len
          subst hρ
          exact g v ρ H' (back p) (backR p) (r'.re (fun a z => .inl (List.mem_append.mpr z)) fun n a z => by simp at z)
        | cons => exact fun g => g.elim
theorem fn_pure {P : Program} {w : World} {K : PySem.W.Frag} {mg : Str → Option Value} {base : Heap} {G : Pg} {xm : XM} {k n : Nat} {f : Addr} {fd : FuncData} {ps : List Str} {F : Fn} (h : FnOk P w K mg base (L2.CX P w) k f fd ps (spOf G xm n F)) : FnOk P w K mg base (L2.CX P w) k f fd ps (spOf G xm n (pureF F)) :=
  h.imp fun vs H Q E => spOf_pure
end
end Sf
end

section
set_option Elab.async false
set_option maxRecDepth 100000
set_option linter.all false
/-! Sf8: methods of lists, chains, a walk over a list's place, the law's end. -/
namespace Sf
open PySem PySem.Spec PyProof.Rows L2 RZ

/-! ### built-in names -/
theorem bt_len : bootBuiltins "len" = some (.builtin "len") := by decide +kernel
theorem bt_abs : bootBuiltins "abs" = some (.builtin "abs") := by decide +kernel
theorem bt_max : bootBuiltins "max" = some (.builtin "max") := by decide +kernel
theorem bt_min : bootBuiltins "min" = some (.builtin "min") := by decide +kernel
theorem bt_sum : bootBuiltins "sum" = some (.builtin "sum") := by decide +kernel
theorem bt_all : bootBuiltins "all" = some (.builtin "all") := by decide +kernel
theorem bt_any : bootBuiltins "any" = some (.builtin "any") := by decide +kernel
theorem bt_isinstance : bootBuiltins "isinstance" = some (.builtin "isinstance") := by decide +kernel
theorem bt_sorted : bootBuiltins "sorted" = some (.builtin "sorted") := by decide +kernel
theorem bt_int : bootBuiltins "int" = some (.type "int") := by decide +kernel
theorem bt_bool : bootBuiltins "bool" = some (.type "bool") := by decide +kernel
theorem bt_str : bootBuiltins "str" = some (.type "str") := by decide +kernel
theorem bt_list : bootBuiltins "list" = some (.type "list") := by decide +kernel
theorem bt_tuple : bootBuiltins "tuple" = some (.type "tuple") := by decide +kernel

/-! ### lengths of argument lists -/
def LenA (fs : FA) (n : Nat) : Prop := ∀ env S ds S', fs env S = .ok ds S' → ds.length = n
theorem len_nil : LenA fNil 0 := fun env S ds S' h => by cases h; rfl
theorem len_cons {f : FE} {fs : FA} {n : Nat} (h : LenA fs n) : LenA (fCons f fs) (n + 1) := fun env S ds S' e => by
  unfold fCons at e
  cases e1 : f env S with
  | exc c S1 => rw [e1] at e; cases e
  | bad => rw [e1] at e; cases e
  | ok x S1 =>
    rw [e1] at e
    have e : ((fs env S1).bind fun xs S2 => Out.ok (x :: xs) S2) = .ok ds S' := e
    cases e2 : fs env S1 with
    | exc c S2 => rw [e2] at e; cases e
    | bad => rw [e2] at e; cases e
    | ok xs S2 => rw [e2] at e; cases e; rw [List.length_cons, h _ _ _ _ e2]

/-! ### what is never reached -/
def sBad : FS := fun _ _ => .bad
theorem ss_bad {X : Cx} {w : Wx} {st : Stmt} : SS X w st sBad := PS.imp ps_never fun D σ H ⟨B, L, ρ, S, env, A, g⟩ => g.elim

/-! ### x op= e with great factors; chains -/
section
variable {X : Cx} {w : Wx} {a b c : Expr} {fa fb fc : FE} {pos : Pos}
theorem iop_mulW : OpR X (inplaceOp .Mult) (rI CMulW fun i j => .int (i * j)) := opI fun _ _ _ _ _ _ _ hc q => imul_int q hc.ok
def oMulI : Op2 := fun x y S => match x, y with
  | .int i, .int j => bif mulOk i j then some (.int (i * j), S) else none
  | _, _ => none
def oAddI : Op2 := fun x y S => match x, y with
  | .int i, .int j => some (.int (i + j), S)
  | _, _ => none
theorem ok_addI : Ok2 (pg X) (rI0 fun i j => .int (i + j)) oAddI := by
  intro B L ρ S S' H d1 d2 d' x y Q R r1 r2 e q
  cases r1 with
  | int i =>
    cases r2 with
    | int j => cases e; exact ⟨i, j, rfl, rfl, here q R (.int _)⟩
    | _ => cases e
  | _ => cases e
theorem opr_imul : OpR X (inplaceOp .Mult) (fun x y H Q => rI CMul (fun i j => .int (i * j)) x y H Q ∨ rI CMulW (fun i j => .int (i * j)) x y H Q) := iop_mul.or iop_mulW
theorem ok_mulI : Ok2 (pg X) (fun x y H Q => rI CMul (fun i j => .int (i * j)) x y H Q ∨ rI CMulW (fun i j => .int (i * j)) x y H Q) oMulI := by
  intro B L ρ S S' H d1 d2 d' x y Q R r1 r2 e q
  cases r1 with
  | int i =>
    cases r2 with
    | int j =>
      unfold oMulI at e
      cases hf : mulOk i j with
      | false => simp [hf] at e
      | true =>
        simp [hf] at e; obtain ⟨rfl, rfl⟩ := e
        rcases mulOk_ok hf with c | c
        · exact .inl ⟨i, j, rfl, rfl, c, here q R (.int _)⟩
        · exact .inr ⟨i, j, rfl, rfl, c, here q R (.int _)⟩
    | _ => cases e
  | _ => cases e
/-- a <= b <= c -/
def fChain (p q : Int → Int → Bool) (fa fb fc : FE) : FE := fun env S => (fa env S).bind fun x S1 => (fb env S1).bind fun y S2 => match x, y with
  | .int i, .int j => bif p i j then (fc env S2).bind fun z S3 => (match z with
      | .int k => .ok (.bl (q j k)) S3
      | _ => .bad) else .ok (.bl false) S2
  | _, _ => .bad
theorem go_chain {p q : Int → Int → Bool} {σ : L2.St} {H : Hp} {Q : VK} (h : tE (pg X) w.W w.xm (fChain p q fa fb fc) σ H Q) :
    tChain (rI0 fun i j => .bl (p i j)) (rI0 fun i j => .bl (q i j)) (tE (pg X) w.W w.xm fa) (tE (pg X) w.W w.xm fb) (tE (pg X) w.W w.xm fc) σ H Q := by
  obtain ⟨B, L, ρ, S, env, A, g⟩ := h
  refine tE_mono (tE_bind2 (rel := rD (pg X)) A g) fun x H1 h1 => tE_mono h1 fun y H2 ⟨B, L, ρ, S, d, d2, A, r, r2, g⟩ => ?_
  cases r with
  | int i =>
    cases r2 with
    | int j =>
      refine ⟨i, j, rfl, rfl, _, rfl, ?_⟩
      simp only at g
      cases hp : p i j with
      | false => rw [hp] at g; exact iteF (GO.ok0 g A (.bl _))
      | true =>
        rw [hp] at g
        refine iteT (tE_mono (tE_bind (rel := rD (pg X)) A g) fun z H3 ⟨B, L, ρ, S, d, A, r, g⟩ => ?_)
        cases r with
        | int k => exact ⟨j, k, rfl, rfl, GO.ok0 g A (.bl _)⟩
        | _ => exact g.elim
    | _ => exact g.elim
  | _ => exact g.elim
theorem se_chain {op op' : CmpOp} {p q : Int → Int → Bool} (ho : OpR X (compareOp op) (rI0 fun i j => .bl (p i j))) (ho' : OpR X (compareOp op') (rI0 fun i j => .bl (q i j))) (ha : SE X w a fa) (hb : SE X w b fb) (hc : SE X w c fc)
    (hm : lastMarks [op, op'] [b, c] = false := by with_unfolding_all rfl) : SE X w (.Compare a [op, op'] [b, c] pos) (fChain p q fa fb fc) :=
  PE.imp (pe_chain ho ho' ha hb hc hm) fun σ H Q h => go_chain h
theorem st_chain {op op' : CmpOp} {p q : Int → Int → Bool} (ho : OpR X (compareOp op) (rI0 fun i j => .bl (p i j))) (ho' : OpR X (compareOp op') (rI0 fun i j => .bl (q i j))) (ha : SE X w a fa) (hb : SE X w b fb) (hc : SE X w c fc)
    (hm : lastMarks [op, op'] [b, c] = false := by with_unfolding_all rfl) : ST X w (.Compare a [op, op'] [b, c] pos) (tVal (fChain p q fa fb fc)) :=
  PT.imp (pt_chain ho ho' ha hb hc hm) fun σ H Q ⟨B, L, ρ, S, env, A, gg⟩ => by
    have key : tE (pg X) w.W w.xm (fChain p q fa fb fc) σ H fun x H1 => ∃ k, x = .bl k ∧ Q k H1 := by
      refine tE_mono (tE_bind (rel := fun _ => rB) (f := fChain p q fa fb fc) A gg) fun x H1 ⟨B, L, ρ, S, d, A, r, g⟩ => ?_
      cases r with
      | bl c => exact ⟨c, rfl, GO.ok0 g A rfl⟩
      | _ => exact g.elim
    exact go_chain key
end

/-! ### methods of a list -/
/-- o.m(e, ..), o.m(): an operation on the receiver and the arguments -/
abbrev OpM := D → List D → Sto → Option (D × Sto)
def fMeth (g : OpM) (fo : FE) (fs : FA) : FE := fun env S => (fo env S).bind fun o S1 => (fs env S1).bind fun xs S2 => outO (g o xs S2)
def mAppend : OpM := fun o xs S => match o, xs with
  | .loc n, [x] => match S[n]? with
    | some (.lst l) => bif fitS l.length then some (.non, S.set n (.lst (l ++ [x]))) else none
    | _ => none
  | _, _ => none
def mExtend : OpM := fun o xs S => match o, xs with
  | .loc n, [y] => match S[n]?, lsW y S with
    | some (.lst l), some m => bif fit (l.length + m.length) then some (.non, S.set n (.lst (l ++ m))) else none
    | _, _ => none
  | _, _ => none
def mPop : OpM := fun o xs S => match o, xs with
  | .loc n, [] => match S[n]? with
    | some (.lst l) => match l.getLast? with
      | some x => some (x, S.set n (.lst l.dropLast))
      | none => none
    | _ => none
  | _, _ => none
def mCount : OpM := fun o xs S => match lsR o S, xs with
  | some l, [.int k] => match intsD l with
    | some ns => some (.int ((ns.count k : Nat) : Int), S)
    | none => none
  | _, _ => none
abbrev OkM (G : Pg) (r : V → List V → Hp → VK → Prop) (g : OpM) : Prop := ∀ (B L ρ : List Addr) (S S' : Sto) (H : Hp) (o : D) (ds : List D) (d' : D) (x : V) (xs : List V) (Q : VK), RH G B L ρ H S → RV G.K B ρ H o x → RVs G.K B ρ H ds xs → g o ds S = some (d', S') →
  (∀ v ρ' H', Post L ρ H ρ' H' → RH G B L ρ' H' S' → RV G.K B ρ' H' d' v → Q v H') → r x xs H Q
section
variable {X : Cx} {w : Wx} {o e : Expr} {es : List Expr} {fo : FE} {fs : FA} {name : Str} {apos cpos : Pos}
/-- the receiver is a list -/
def isLs (d : D) (S : Sto) : Bool := (lsR d S).isSome
def fMethL (g : OpM) (fo : FE) (fs : FA) : FE := fun env S => (fo env S).bind fun o S1 => bif isLs o S1 then (fs env S1).bind fun xs S2 => outO (g o xs S2) else .bad
theorem isLs_ok {G : Pg} {B L ρ : List Addr} {S : Sto} {H : Hp} {d : D} {x : V} (R : RH G B L ρ H S) (r : RV G.K B ρ H d x) (h : isLs d S = true) : tyV G.K "list" x H := by
  unfold isLs at h
  obtain ⟨l, e⟩ := Option.isSome_iff_exists.mp h
  obtain ⟨a, vs, rfl, h1, h2⟩ := lsR_ok R r e
  exact .inl ⟨rfl, vs, h1⟩
theorem go_methL {g : OpM} {r : V → List V → Hp → VK → Prop} (h : OkM (pg X) r g) {σ : L2.St} {H : Hp} {Q : VK} (ht : tE (pg X) w.W w.xm (fMethL g fo fs) σ H Q) :
    tE (pg X) w.W w.xm fo σ H fun x H1 => tyV X.K "list" x H1 ∧ tA (pg X) w.W w.xm fs σ H1 fun xs H2 => r x xs H2 Q := by
  obtain ⟨B, L, ρ, S, env, A, gg⟩ := ht
  refine ⟨B, L, ρ, S, env, A, ?_⟩
  revert gg
  unfold fMethL
  cases fo env S with
  | exc c S' => exact fun g => g
  | bad => exact fun g => g
  | ok d S' =>
    intro g1 v ρ' H' p R r1
    have g2 : GO (pg X) w.W w.xm B L ρ' H' σ (rD (pg X) B) (bif isLs d S' then (fs env S').bind fun xs S2 => outO (g d xs S2) else .bad) Q := GO.step g1 p
    cases hl : isLs d S' with
    | false => rw [hl] at g2; exact g2.elim
    | true =>
      rw [hl] at g2
      refine ⟨isLs_ok (G := pg X) R r1 hl, B, L, ρ', S', env, A.step p R, ?_⟩
      revert g2
      show GO (pg X) w.W w.xm B L ρ' H' σ (rD (pg X) B) ((fs env S').bind fun xs S2 => outO (g d xs S2)) Q → _
      cases fs env S' with
      | exc c S' => exact fun g => g
      | bad => exact fun g => g
      | ok ds S2 =>
        intro g2 vs ρ2 H2 p2 R2 r2
        have g3 : GO (pg X) w.W w.xm B L ρ2 H2 σ (rD (pg X) B) (outO (g d ds S2)) Q := GO.step g2 p2
        obtain ⟨d', S3, e, q⟩ := g3.outO
        exact h B L ρ2 S2 S3 H2 d ds d' v vs Q R2 (r1.mono p2) r2 e q
theorem ok_append : OkM (pg X) rAppend mAppend := by
  intro B L ρ S S' H o ds d' x xs Q R ro rs e q
  match o, ds, e with
  | .loc n, [d], e =>
    obtain ⟨y, rfl, r⟩ := rvs1 rs
    cases ro with
    | @loc _ a h =>
      unfold mAppend at e
      simp only at e
      cases q1 : S[n]? with
      | none => rw [q1] at e; cases e
      | some ob =>
        rw [q1] at e
        cases ob with
        | lst l =>
          simp only at e
          cases hf : fitS l.length with
          | false => rw [hf] at e; cases e
          | true =>
            rw [hf] at e; cases e
            obtain ⟨vs, h1, h2⟩ := R.ob n a _ h q1
            have hl : a ∉ L := R.notL h1 fun _ _ z => nomatch z
            exact ⟨a, vs, y, rfl, rfl, h1, by rw [← h2.length]; exact fitS_lt hf, q .non ρ _ (Post.wr h hl) (R.wr h hl ⟨_, upd_same, RVs.mono (Post.wr (L := L) h hl) _ _ (h2.append (.cons r .nil))⟩) .non⟩
        | _ => cases e
theorem ok_extend : OkM (pg X) rExtend mExtend := by
  intro B L ρ S S' H o ds d' x xs Q R ro rs e q
  match o, ds, e with
  | .loc n, [d], e =>
    obtain ⟨y, rfl, r⟩ := rvs1 rs
    cases ro with
    | @loc _ a h =>
      unfold mExtend at e
      simp only at e
      cases q1 : S[n]? with
      | none => rw [q1] at e; cases e
      | some ob =>
        cases ob with
        | lst l =>
          cases q2 : lsW d S with
          | none => rw [q1, q2] at e; cases e
          | some m =>
            rw [q1, q2] at e
            simp only at e
            cases hf : fit (l.length + m.length) with
            | false => rw [hf] at e; cases e
            | true =>
              rw [hf] at e; cases e
              obtain ⟨vs, h1, h2⟩ := R.ob n a _ h q1
              obtain ⟨b, ws, rfl, h3, h4⟩ := lsW_ok (G := pg X) R r q2
              have hl : a ∉ L := R.notL h1 fun _ _ z => nomatch z
              exact ⟨a, b, vs, ws, rfl, rfl, h1, h3, by rw [← h2.length, ← h4.length]; exact fit_le hf, q .non ρ _ (Post.wr h hl) (R.wr h hl ⟨_, upd_same, RVs.mono (Post.wr (L := L) h hl) _ _ (h2.append h4)⟩) .non⟩
        | _ => rw [q1] at e; cases e
theorem ok_pop : OkM (pg X) rPop mPop := by
  intro B L ρ S S' H o ds d' x xs Q R ro rs e q
  match o, ds, e with
  | .loc n, [], e =>
    cases rs
    cases ro with
    | @loc _ a h =>
      unfold mPop at e
      simp only at e
      cases q1 : S[n]? with
      | none => rw [q1] at e; cases e
      | some ob =>
        rw [q1] at e
        cases ob with
        | lst l =>
          simp only at e
          cases q2 : l.getLast? with
          | none => rw [q2] at e; cases e
          | some z =>
            rw [q2] at e; cases e
            obtain ⟨vs, h1, h2⟩ := R.ob n a _ h q1
            have hl : a ∉ L := R.notL h1 fun _ _ z => nomatch z
            rw [List.getLast?_eq_getElem?, h2.length] at q2
            obtain ⟨y, e2, r2⟩ := h2.get q2
            exact ⟨a, vs, y, rfl, rfl, h1, e2, q y ρ _ (Post.wr h hl) (R.wr h hl ⟨_, upd_same, RVs.mono (Post.wr (L := L) h hl) _ _ h2.dropLast⟩) (r2.mono (Post.wr (L := L) h hl))⟩
        | _ => cases e
theorem ok_count : OkM (pg X) (rCntI X.K) mCount := by
  intro B L ρ S S' H o ds d' x xs Q R ro rs e q
  unfold mCount at e
  cases e1 : lsR o S with
  | none => rw [e1] at e; cases e
  | some l =>
    rw [e1] at e
    match ds, e with
    | [.int k], e =>
      obtain ⟨y, rfl, r⟩ := rvs1 rs
      cases r
      simp only at e
      cases e2 : intsD l with
      | none => rw [e2] at e; cases e
      | some ns =>
        rw [e2] at e; cases e
        obtain ⟨a, vs, rfl, h1, h2⟩ := lsR_ok (G := pg X) R ro e1
        obtain rfl := intsD_ok (G := pg X) h2 e2
        exact ⟨a, ns, k, rfl, rfl, h1, here (G := pg X) q R (.int _)⟩
theorem se_append (ho : SE X w o fo) (ha : SA X w [e] fs) (hbase : attributeBase o "append" X.env (eval o X.env) = eval o X.env := by rfl)
    (hfew : ((backTo cpos (starEach [e] X.env)).all (fun x => !x.1) && (backToKw cpos (keywordEach [] X.env)).all (fun x => x.1.isSome) && decide (([e] : List Expr).length + ([] : List Keyword).length + (if ([] : List Keyword).isEmpty then 0 else 1) < 30)) = true := by rfl)
    (hline : (apos.endLine == cpos.line) = true := by rfl) (hs : starEach [e] X.env = (false, eval e X.env) :: starEach [] X.env := by rfl) (hplain : (backTo cpos (starEach [] X.env)).any (·.1) = false := by rfl) :
    SE X w (.Call (.Attribute o "append" apos) [e] [] cpos) (fMethL mAppend fo fs) :=
  PE.imp (pe_bm PySem.F.plainAttrs_list PySem.F.slot_list_append PySem.F.type_list_append mt_append ho ha hbase hfew hline hs hplain) fun σ H Q h => go_methL ok_append h
theorem se_extend (ho : SE X w o fo) (ha : SA X w [e] fs) (hbase : attributeBase o "extend" X.env (eval o X.env) = eval o X.env := by rfl)
    (hfew : ((backTo cpos (starEach [e] X.env)).all (fun x => !x.1) && (backToKw cpos (keywordEach [] X.env)).all (fun x => x.1.isSome) && decide (([e] : List Expr).length + ([] : List Keyword).length + (if ([] : List Keyword).isEmpty then 0 else 1) < 30)) = true := by rfl)
    (hline : (apos.endLine == cpos.line) = true := by rfl) (hs : starEach [e] X.env = (false, eval e X.env) :: starEach [] X.env := by rfl) (hplain : (backTo cpos (starEach [] X.env)).any (·.1) = false := by rfl) :
    SE X w (.Call (.Attribute o "extend" apos) [e] [] cpos) (fMethL mExtend fo fs) :=
  PE.imp (pe_bm PySem.F.plainAttrs_list PySem.F.slot_list_extend PySem.F.type_list_extend mt_extend ho ha hbase hfew hline hs hplain) fun σ H Q h => go_methL ok_extend h
theorem se_count (ho : SE X w o fo) (ha : SA X w [e] fs) (hbase : attributeBase o "count" X.env (eval o X.env) = eval o X.env := by rfl)
    (hfew : ((backTo cpos (starEach [e] X.env)).all (fun x => !x.1) && (backToKw cpos (keywordEach [] X.env)).all (fun x => x.1.isSome) && decide (([e] : List Expr).length + ([] : List Keyword).length + (if ([] : List Keyword).isEmpty then 0 else 1) < 30)) = true := by rfl)
    (hline : (apos.endLine == cpos.line) = true := by rfl) (hs : starEach [e] X.env = (false, eval e X.env) :: starEach [] X.env := by rfl) (hplain : (backTo cpos (starEach [] X.env)).any (·.1) = false := by rfl) :
    SE X w (.Call (.Attribute o "count" apos) [e] [] cpos) (fMethL mCount fo fs) :=
  PE.imp (pe_bm PySem.F.plainAttrs_list PySem.F.slot_list_count PySem.F.type_list_count mt_lcount ho ha hbase hfew hline hs hplain) fun σ H Q h => go_methL ok_count h
theorem se_pop (ho : SE X w o fo) (hbase : attributeBase o "pop" X.env (eval o X.env) = eval o X.env := by rfl) (hline : (apos.endLine == cpos.line) = true := by rfl) :
    SE X w (.Call (.Attribute o "pop" apos) [] [] cpos) (fMethL mPop fo fNil) :=
  PE.imp (pe_bm0 PySem.F.plainAttrs_list PySem.F.slot_list_pop PySem.F.type_list_pop mt_pop ho hbase hline) fun σ H Q h => tE_mono (go_methL (fs := fNil) ok_pop h) fun x H1 ⟨h1, B, L, ρ, S, env, A, g⟩ => ⟨h1, g [] ρ H1 Post.refl A.rh .nil⟩
end

/-! ### a walk over a value or over a list's place -/
def forV (g : D → En → Option En) (b : FS) (n : Nat) : Nat → Nat → FS
  | 0, _ => fun _ _ => .bad
  | k + 1, i => fun env S => match S[n]? with
    | some (.lst l) => match l[i]? with
      | some d => match g d env with
        | none => .bad
        | some env1 => match b env1 S with
          | .nx env' S' => forV g b n k (i + 1) env' S'
          | .ct env' S' => forV g b n k (i + 1) env' S'
          | .bk env' S' => .nx env' S'
          | r => r
      | none => .nx env S
    | _ => .bad
def sForD (a : FE) (g : D → En → Option En) (b : FS) : FS := fun env S => (a env S).bindS fun x S1 => match x with
  | .loc n => match S1[n]? with
    | some (.lst l) => forV g b n (l.length + 1) 0 env S1
    | _ => .bad
  | x => match itemsD x with
    | some l => forL g b l env S1
    | none => .bad

section
variable {X : Cx} {w : Wx} {tg iter : Expr} {body : List Stmt} {fe : FE} {g : D → En → Option En} {t : TG} {is : List Nat} {f : FS} {pos : Pos}
theorem ss_forD (hp : PassesOwn (model X.prog X.w) X.A X.env X.xe) (hc : X.calm = true) (hi : SE X w iter fe) (hg : SG X tg t g is) (hb : SSs X w body f) (hs : ∀ x, foldedSetIterable iter X.env x = pure x := by intro _; rfl) :
    SS X w (.For tg iter body [] pos) (sForD fe g f) := PS.imp (ps_for hp hc (pi_seq hi) hg.pg hb hs) fun D σ H ⟨B, L, ρ, S, env, A, gg⟩ => by
  refine ⟨B, L, ρ, S, env, A, ?_⟩
  revert gg
  unfold sForD
  cases fe env S with
  | exc c S' => exact fun g => g σ
  | bad => exact fun g => g
  | ok d S' =>
    intro gg v ρ1 H1 p R r
    have A1 := A.step p R
    -- a value
    have fixd : ∀ {l : List Sf.D} {J : It} {I : List Addr → List Addr → Hp → Prop}, GS (pg X) w.W w.xm B L ρ H (forL g f l env S') D → WalkOk (pg X) L J l I → I B ρ1 H1 →
        ∃ W : Nat → Nat → L2.St → Hp → Prop, (∃ m, W 0 m σ H1) ∧ ∀ i m σ H, W i m σ H →
          (J.stop i H ∧ D.nx σ H) ∨ (J.go i H ∧ ∃ N : L2.St → Hp → Prop, (∀ σ' H', N σ' H' → ∃ m', m' < m ∧ W (i + 1) m' σ' H') ∧ ∀ x H', J.yld i H x H' → t x σ H' fun σ2 H2 => tS (pg X) w.W w.xm f { D with nx := N, ct := N, bk := D.nx } σ2 H2) := by
      intro l J I gg wk i0
      have g1 : GS (pg X) w.W w.xm B L ρ1 H1 (forL g f l env S') D := GS.step gg p
      refine ⟨fun i m σ H => ∃ ρ S env, At (pg X) B L ρ S env σ H ∧ I B ρ H ∧ i ≤ l.length ∧ m = l.length - i ∧ GS (pg X) w.W w.xm B L ρ H (forL g f (l.drop i) env S) D, ⟨l.length, ρ1, S', env, A1, i0, Nat.zero_le _, rfl, g1⟩, ?_⟩
      rintro i m σ2 H2 ⟨ρ2, S2, env2, A2, i2, hle, rfl, g2⟩
      by_cases hlt : i < l.length
      · refine .inr ⟨wk.go B ρ2 H2 i i2 hlt, fun σ H => ∃ ρ S env, At (pg X) B L ρ S env σ H ∧ I B ρ H ∧ GS (pg X) w.W w.xm B L ρ H (forL g f (l.drop (i + 1)) env S) D, fun σ' H' ⟨ρ, S, env, A, i', g'⟩ => ⟨l.length - (i + 1), by omega, ρ, S, env, A, i', hlt, rfl, g'⟩, ?_⟩
        intro x H3 y
        obtain ⟨p3, R3, r3⟩ := wk.yld B ρ2 S2 H2 H3 i l[i] x i2 A2.rh (List.getElem?_eq_getElem hlt) y
        rw [List.drop_eq_getElem_cons hlt] at g2
        unfold forL at g2
        cases hu : g l[i] env2 with
        | none => rw [hu] at g2; exact g2.elim
        | some env3 =>
          rw [hu] at g2
          refine hg.ok B L ρ2 H3 l[i] x env2 env3 σ2 _ r3 (A2.re.mono p3) hu fun σ3 re3 _ => ?_
          refine ⟨B, L, ρ2, S2, env3, ⟨R3, re3⟩, ?_⟩
          have g3 := GS.step g2 p3
          have i3 := wk.mono B ρ2 ρ2 H2 H3 p3 i2
          revert g3
          simp only
          cases f env3 S2 with
          | nx env' S' => exact fun g σ' ρ' H' p R re => ⟨ρ', S', env', ⟨R, re⟩, wk.mono B ρ2 ρ' H3 H' p i3, GS.step g p⟩
          | ct env' S' => exact fun g σ' ρ' H' p R re => ⟨ρ', S', env', ⟨R, re⟩, wk.mono B ρ2 ρ' H3 H' p i3, GS.step g p⟩
          | bk e S' => exact fun g => g
          | rt e S' => exact fun g => g
          | xc c S' => exact fun g => g
          | bad => exact fun g => g
      · have hi : i = l.length := by omega
        subst hi
        rw [List.drop_length] at g2
        exact .inl ⟨wk.stop B ρ2 H2 i2, GS.nx0 g2 A2.rh A2.re⟩
    cases r with
    | tup h r => exact ⟨_, rfl, .inr ⟨⟨_, h.sq⟩, fixd gg walk_tup ⟨h, r⟩⟩⟩
    | lst h1 h2 h3 r => exact ⟨_, rfl, .inl ⟨⟨_, .inl (.inl h3)⟩, fixd gg walk_scr ⟨.inl ⟨h1, h2, .inl h3⟩, r⟩⟩⟩
    | scr h r => exact ⟨_, rfl, .inl ⟨⟨_, h.sq⟩, fixd gg walk_scr ⟨h, r⟩⟩⟩
    | @loc n a h =>
      have gg : GS (pg X) w.W w.xm B L ρ H (match S'[n]? with
        | some (.lst l) => forV g f n (l.length + 1) 0 env S'
        | _ => .bad) D := gg
      cases q1 : S'[n]? with
      | none => rw [q1] at gg; exact gg.elim
      | some ob =>
        rw [q1] at gg
        cases ob with
        | lst l =>
          obtain ⟨vs, h1, h2⟩ := R.ob n a _ h q1
          have g1 : GS (pg X) w.W w.xm B L ρ1 H1 (forV g f n (l.length + 1) 0 env S') D := GS.step gg p
          refine ⟨a, rfl, .inl ⟨⟨vs, .inl (.inl h1)⟩, ?_⟩⟩
          refine ⟨fun i m σ H => ∃ ρ S env, At (pg X) B L ρ S env σ H ∧ ρ[n]? = some a ∧ GS (pg X) w.W w.xm B L ρ H (forV g f n m i env S) D, ⟨l.length + 1, ρ1, S', env, A1, h, g1⟩, ?_⟩
          rintro i m σ2 H2 ⟨ρ2, S2, env2, A2, hn, g2⟩
          cases m with
          | zero => exact g2.elim
          | succ m =>
            unfold forV at g2
            cases q2 : S2[n]? with
            | none => rw [q2] at g2; exact g2.elim
            | some ob =>
              rw [q2] at g2
              cases ob with
              | lst l2 =>
                simp only at g2
                obtain ⟨vs2, h3, h4⟩ := A2.rh.ob n a _ hn q2
                cases q3 : l2[i]? with
                | none =>
                  rw [q3] at g2
                  exact .inl ⟨⟨vs2, .inl (.inl h3), by rw [← h4.length]; exact List.getElem?_eq_none_iff.mp q3⟩, GS.nx0 g2 A2.rh A2.re⟩
                | some d2 =>
                  rw [q3] at g2
                  simp only at g2
                  obtain ⟨v2, e2, r2⟩ := h4.get q3
                  refine .inr ⟨⟨vs2, v2, .inl (.inl h3), e2⟩, fun σ H => ∃ ρ S env, At (pg X) B L ρ S env σ H ∧ ρ[n]? = some a ∧ GS (pg X) w.W w.xm B L ρ H (forV g f n m (i + 1) env S) D, fun σ' H' h => ⟨m, Nat.lt_succ_self m, h⟩, ?_⟩
                  rintro x H3 ⟨rfl, y⟩
                  have := y vs2 (.inl (.inl h3))
                  rw [e2] at this; cases this
                  cases hu : g d2 env2 with
                  | none => rw [hu] at g2; exact g2.elim
                  | some env3 =>
                    rw [hu] at g2
                    refine hg.ok B L ρ2 H3 d2 v2 env2 env3 σ2 _ r2 A2.re hu fun σ3 re3 _ => ?_
                    refine ⟨B, L, ρ2, S2, env3, ⟨A2.rh, re3⟩, ?_⟩
                    revert g2
                    simp only
                    cases f env3 S2 with
                    | nx env' S' => exact fun g σ' ρ' H' p R re => ⟨ρ', S', env', ⟨R, re⟩, p.at hn, GS.step g p⟩
                    | ct env' S' => exact fun g σ' ρ' H' p R re => ⟨ρ', S', env', ⟨R, re⟩, p.at hn, GS.step g p⟩
                    | bk e S' => exact fun g => g
                    | rt e S' => exact fun g => g
                    | xc c S' => exact fun g => g
                    | bad => exact fun g => g
              | _ => exact g2.elim
        | _ => exact gg.elim
    | _ => exact gg.elim
end

/-! ### a, b = x, y -/
section
variable {X : Cx} {w : Wx} {fs : FA} {i j l : Nat} {x y z : Str} {a b c : Expr} {px py pz pt pos : Pos} {kt k2 : Nat} {pt2 : Pos}
theorem ss_par2s (hc : X.calm = true) (hN : X.N.Nodup) (ha : SA X w [a, b] fs) (hij : i ≠ j) (hi : X.N[i]? = some x := by rfl) (hj : X.N[j]? = some y := by rfl)
    (hx : X.env.scope.names.lookup x = some .local := by rfl) (hy : X.env.scope.names.lookup y = some .local := by rfl)
    (hw : swappedStores [.Tuple [.Name x px, .Name y py] kt pt] (.Tuple [a, b] k2 pt2) X.env = pure (some [x, y]) := by rfl)
    (hs : swapsWithSole [.Tuple [.Name x px, .Name y py] kt pt] (.Tuple [a, b] k2 pt2) pos.line X.env = pure false := by rfl) :
    SS X w (.Assign [.Tuple [.Name x px, .Name y py] kt pt] (.Tuple [a, b] k2 pt2) pos) (sPar2 i j fs) :=
  ss_par2 (ps_par hc hN hi hj hij hx hy ha hw hs) fun _ _ _ h => h
theorem ss_par3s (hc : X.calm = true) (hN : X.N.Nodup) (ha : SA X w [a, b, c] fs) (hij : i ≠ j) (hil : i ≠ l) (hjl : j ≠ l) (hi : X.N[i]? = some x := by rfl) (hj : X.N[j]? = some y := by rfl) (hl : X.N[l]? = some z := by rfl)
    (hx : X.env.scope.names.lookup x = some .local := by rfl) (hy : X.env.scope.names.lookup y = some .local := by rfl) (hz : X.env.scope.names.lookup z = some .local := by rfl)
    (hw : swappedStores [.Tuple [.Name x px, .Name y py, .Name z pz] kt pt] (.Tuple [a, b, c] k2 pt2) X.env = pure (some [x, y, z]) := by rfl)
    (hs : swapsWithSole [.Tuple [.Name x px, .Name y py, .Name z pz] kt pt] (.Tuple [a, b, c] k2 pt2) pos.line X.env = pure false := by rfl) :
    SS X w (.Assign [.Tuple [.Name x px, .Name y py, .Name z pz] kt pt] (.Tuple [a, b, c] k2 pt2) pos) (sPar3 i j l fs) :=
  ss_par3 (ps_par3 hc hN hi hj hl hij hil hjl hx hy hz ha hw hs) fun _ _ _ h => h
end

/-! ### names of the module -/
section
variable {X : Cx} {w : Wx} {pos : Pos} {x : Str}
theorem se_globI {i : Int} (h : ∃ t, X.mg x = some (.int i t)) (hg : Gl X x := by rfl) (hd : (x == ("__debug__" : Str)) = false := by decide) : SE X w (.Name x pos) (fCon (.int i)) := by
  obtain ⟨t, h⟩ := h
  exact se_con (pe_glob (v := .int i) hg h ⟨t, rfl⟩ hd) fun _ _ _ => .int i
theorem se_globS {i : Str} (h : ∃ t, X.mg x = some (.str i t)) (hg : Gl X x := by rfl) (hd : (x == ("__debug__" : Str)) = false := by decide) : SE X w (.Name x pos) (fCon (.str i)) := by
  obtain ⟨t, h⟩ := h
  exact se_con (pe_glob (v := .str i) hg h ⟨t, rfl⟩ hd) fun _ _ _ => .str i
theorem se_ty {n : String} (hm : X.mg x = none) (hv : bootBuiltins x = some (.type n)) (hg : Gl X x := by rfl) (hn : x ≠ "__name__" := by decide) (hd : (x == ("__debug__" : Str)) = false := by decide) : SE X w (.Name x pos) (fCon (.glob (.ty n))) :=
  se_con (pe_bltn (v := .ty n) hg hm hv rfl hn hd) fun _ _ _ => .glob (by intro z; cases z)
end
/-- a def as the top has left it -/
structure Df (K : PySem.W.Frag) (mg : Str → Option Value) (x : Str) (st : Stmt) (ps : List Str) (a : Addr) (fd : FuncData) : Prop where
  F : Fun K x x st a fd
  m : mg x = some (.ref a)
  b : Binds K fd ps []

/-! ### the law's end -/
abbrev W0f : XM → Prop := fun _ => True
theorem law_end {l : PySem.W.OpenLaw} {q : Program} {loose : List Str} {XP : (Str → Option Value) → Heap → Prop} {YP : World → Heap → Prop} {d : DefRec} {K : Params → PySem.W.Frag} {x : Str} {k : Nat} {F : Fn} {xm : PySem.W.Frag → XM}
    (hn : l.most = some 63) (hdf : d.params.defaults = []) (hr : Room k callerA)
    (hY : ∀ (w : World) (h : Heap), YP w h → (K w.params).In h)
    (hF : ∀ (w : World) (mg : Str → Option Value) (fa : Addr) (h : Heap), (K w.params).In h → h.Ns mainGlobals mg → mg d.name = some (.ref fa) →
      ∃ fd : FuncData, (∀ (s : Shared) (u : Value), BindsTo s fd ⟨[u], []⟩ [(x, u)]) ∧
        ∀ base : Heap, (K w.params).In base → base.Ns mainGlobals mg → FnOk l.prog w (K w.params) mg base (L2.CX l.prog w) k fa fd [x] (spOf ⟨l.prog, w, K w.params⟩ (xm (K w.params)) 1 F))
    (hT : ∀ ns : List Int, ns.length ≤ 63 → ∃ S', F [.scr (ns.map D.int)] [] = .ok (.bl true) S') :
    PySem.W.WalkO q loose XP YP l.row.toRowW d [] (fun f vs => PySem.call f vs) := by
  refine L2.walk_of (n := 63) (k := k) (x := x) (CX := fun w => L2.CX l.prog w) (sp := fun w => spOf ⟨l.prog, w, K w.params⟩ (xm (K w.params)) 1 F) hn (by decide) hdf hr hY hF (fun w H a ns hl hO hS => ?_) fun w H s e s' h => ?_
  · obtain ⟨S', e⟩ := hT ns hl
    have rvs : ∀ ns : List Int, RVs (K w.params) [] [] H (ns.map D.int) (ns.map V.int) := fun ns => by
      induction ns with
      | nil => exact .nil
      | cons n ns ih => exact .cons (.int n) ih
    refine ⟨rfl, [], [], [], [], [.scr (ns.map D.int)], ⟨rfl, List.nodup_nil, (fun a z => nomatch z), (fun a z => nomatch z), (fun a z => nomatch z), fun n a o h => (by simp at h)⟩, .cons (.scr ?_ (rvs ns)) .nil, ?_⟩
    · exact hS.imp (fun h => ⟨(fun z => nomatch z), (fun z => nomatch z), h⟩) id
    · rw [e]
      intro v ρ' H' p R r
      cases r; rfl
  · obtain ⟨_, _, _, _, _, _, _, _, _, _, _, _, z⟩ := h
    exact z.elim
end Sf
end

section
set_option Elab.async false
set_option maxRecDepth 100000
set_option linter.all false
/-! Sf9: sorted. -/
namespace Sf
open PySem PySem.Spec PyProof.Rows L2
def insI (i : Int) : List Int → List Int
  | [] => [i]
  | j :: l => bif decide (i ≤ j) then i :: j :: l else j :: insI i l
def srtI : List Int → List Int
  | [] => []
  | i :: l => insI i (srtI l)
theorem insI_perm (i : Int) : ∀ l : List Int, (insI i l).Perm (i :: l)
  | [] => List.Perm.refl _
  | j :: l => by
    unfold insI
    cases h : decide (i ≤ j) with
    | true => exact List.Perm.refl _
    | false => exact (List.Perm.cons j (insI_perm i l)).trans (List.Perm.swap i j l)
theorem srtI_perm : ∀ l : List Int, (srtI l).Perm l
  | [] => List.Perm.refl _
  | i :: l => (insI_perm i (srtI l)).trans (List.Perm.cons i (srtI_perm l))
theorem insI_srt (i : Int) : ∀ l : List Int, l.Pairwise (· ≤ ·) → (insI i l).Pairwise (· ≤ ·)
  | [], _ => by simp [insI]
  | j :: l, h => by
    unfold insI
    have h1 := List.pairwise_cons.mp h
    cases c : decide (i ≤ j) with
    | true =>
      have c := of_decide_eq_true c
      refine List.pairwise_cons.mpr ⟨fun x hx => ?_, h⟩
      rcases List.mem_cons.mp hx with rfl | hx
      · exact c
      · have := h1.1 x hx; omega
    | false =>
      have c := of_decide_eq_false c
      refine List.pairwise_cons.mpr ⟨fun x hx => ?_, insI_srt i l h1.2⟩
      rcases List.mem_cons.mp ((insI_perm i l).mem_iff.mp hx) with rfl | hx
      · omega
      · exact h1.1 x hx
theorem srtI_srt : ∀ l : List Int, (srtI l).Pairwise (· ≤ ·)
  | [] => List.Pairwise.nil
  | i :: l => insI_srt i _ (srtI_srt l)
theorem srtI_eq {l m : List Int} (h1 : m.Perm l) (h2 : m.Pairwise (· ≤ ·)) : m = srtI l :=
  List.Perm.eq_of_pairwise (le := (· ≤ ·)) (fun a b _ _ h h' => by omega) h2 (srtI_srt l) (h1.trans (srtI_perm l).symm)
def oSorted : OpN := fun xs S => match xs with
  | [x] => match lsR x S with
    | some l => match intsD l with
      | some ns => some (.lst ((srtI ns).map D.int), S)
      | none => none
    | none => none
  | _ => none
theorem rvs_ints {K : PySem.W.Frag} {B ρ : List Addr} {H : Hp} : ∀ l : List Int, RVs K B ρ H (l.map D.int) (l.map V.int)
  | [] => .nil
  | i :: l => .cons (.int i) (rvs_ints l)
section
variable {X : Cx}
theorem ok_sorted : OkN (pg X) (rSortedI X.K) oSorted := by
  intro B L ρ S S' H ds d' xs Q R r e q
  unfold oSorted at e
  match ds, r, e with
  | [x], .cons r1 .nil, e =>
    simp only at e
    cases e1 : lsR x S with
    | none => rw [e1] at e; cases e
    | some l =>
      rw [e1] at e
      simp only at e
      cases e2 : intsD l with
      | none => rw [e2] at e; cases e
      | some ns =>
        rw [e2] at e; cases e
        obtain ⟨a, vs, rfl, hs, rv⟩ := lsR_ok R r1 e1
        have := intsD_ok rv e2
        subst this
        refine ⟨a, ns, rfl, hs, fun ns' p h1 h2 hp => ?_⟩
        rw [srtI_eq h1 h2]
        exact q _ ρ _ (Post.newV hp) (R.newV hp) (.lst (R.fresh hp).2 (R.fresh hp).1 upd_same (rvs_ints _))
end
end Sf
end

section
set_option Elab.async false
set_option maxRecDepth 100000
set_option linter.all false
/-! Sd1: dicts whose keys are tuples of any depth: their rules. -/
namespace Sf
open PySem PySem.Spec PyProof.Rows L2

/-! the key that a value is -/
mutual
inductive KIs (H : Hp) : NestedKey → V → Prop
  | non : KIs H .none .non
  | int (i : Int) : KIs H (.num i) (.int i)
  | tup {a vs ks} : H a = some (.tup vs) → KIss H ks vs → KIs H (.tup ks) (.ref a)
inductive KIss (H : Hp) : List NestedKey → List V → Prop
  | nil : KIss H [] []
  | cons {k v ks vs} : KIs H k v → KIss H ks vs → KIss H (k :: ks) (v :: vs)
end
mutual
theorem kis_rv {K : PySem.W.Frag} {B ρ : List Addr} {H : Hp} : ∀ (d : D) (v : V) (nk : NestedKey), RV K B ρ H d v → D.key d = some nk → KIs H nk v
  | .und, _, _, h, _ => by cases h
  | .non, _, _, .non, e => by cases e; exact .non
  | .bl _, _, _, _, e => by cases e
  | .int i, _, _, .int _, e => by cases e; exact .int i
  | .str _, _, _, _, e => by cases e
  | .tup l, _, nk, .tup h r, e => by
    unfold D.key at e
    cases q : D.keys l with
    | none => rw [q] at e; cases e
    | some ks => rw [q] at e; cases e; exact .tup h.2.2 (kiss_rv l _ ks r q)
  | .lst _, _, _, _, e => by cases e
  | .scr _, _, _, _, e => by cases e
  | .loc _, _, _, _, e => by cases e
  | .glob _, _, _, _, e => by cases e
theorem kiss_rv {K : PySem.W.Frag} {B ρ : List Addr} {H : Hp} : ∀ (l : List D) (vs : List V) (ks : List NestedKey), RVs K B ρ H l vs → D.keys l = some ks → KIss H ks vs
  | [], _, _, .nil, e => by unfold D.keys at e; cases e; exact .nil
  | d :: l, _, ks, .cons h t, e => by
    unfold D.keys at e
    cases q : D.key d with
    | none => rw [q] at e; cases e
    | some k =>
      cases q' : D.keys l with
      | none => rw [q, q'] at e; cases e
      | some ks' => rw [q, q'] at e; cases e; exact .cons (kis_rv d _ k h q) (kiss_rv l _ ks' t q')
end
mutual
theorem nested_of {P : Program} {w : World} {H : Hp} {h : Heap} (ok : HOk P w H h) : ∀ (nk : NestedKey) (v : V) (u : Value), KIs H nk v → RelV v u → NestedIs h nk u
  | .none, _, u, .non, r => by cases (show u = Value.none from r); exact .none
  | .num i, _, u, .int _, r => by obtain ⟨t, rfl⟩ := r; exact .int i t
  | .text _, _, _, k, _ => by cases k
  | .tup ks, _, u, .tup (a := a) (vs := vs) e t, r => by
    cases (show u = Value.ref a from r)
    obtain ⟨z, its, rv, p⟩ := ok a _ e
    obtain ⟨o, ho, hc, n, hd⟩ := id p
    exact .tup ho hc hd (by simpa using nesteds_of ok ks vs its t rv)
theorem nesteds_of {P : Program} {w : World} {H : Hp} {h : Heap} (ok : HOk P w H h) : ∀ (ks : List NestedKey) (vs : List V) (us : List Value), KIss H ks vs → Vals vs us → NestedAll h ks us
  | [], _, _, .nil, .nil => .nil
  | k :: ks, _, _, .cons h1 h2, .cons r t => .cons (nested_of ok k _ _ h1 r) (nesteds_of ok ks _ _ h2 t)
end
abbrev Ent := NestedKey × Addr × V
def KEnt (H : Hp) (e : Ent) : Prop := KIs H e.1 (.ref e.2.1) ∧ e.1.depth ≤ 8
theorem KEnt.is {P : Program} {w : World} {H : Hp} {h : Heap} (ok : HOk P w H h) {nk : NestedKey} {a : Addr} (k : KIs H nk (.ref a)) (hd : nk.depth ≤ 8) : (nestedKind P w).is h nk a :=
  ⟨nested_of ok nk _ _ k (show RelV (.ref a) (.ref a) from rfl), hd⟩
def valX (ents : List Ent) (k : NestedKey) : Option V := (ents.find? fun e => decide (e.1 = k)).map (·.2.2)
def putX (ents : List Ent) (k : NestedKey) (a : Addr) (v : V) : List Ent := if (valX ents k).isSome then ents.map (fun e => if e.1 = k then (e.1, e.2.1, v) else e) else ents ++ [(k, a, v)]
abbrev PX : Ent → NestedKey × Addr × Value → Prop := fun p q => p.1 = q.1 ∧ p.2.1 = q.2.1 ∧ RelV p.2.2 q.2.2
theorem relO_valX {k : NestedKey} : ∀ {ents : List Ent} {xs : List (NestedKey × Addr × Value)}, Paired PX ents xs → RelO (valX ents k) ((atKey xs k).map (·.2))
  | _, _, .nil => by simp [valX, atKey, RelO]
  | _, _, .cons (a := p) (b := q) (l₁ := l) (l₂ := m) r t => by
    have ih := relO_valX (k := k) t
    unfold valX atKey at ih ⊢
    rw [List.find?_cons, List.find?_cons, ← r.1]
    by_cases h : p.1 = k
    · rw [decide_eq_true h]; exact r.2.2
    · rw [decide_eq_false h]; exact ih
theorem Paired.map2 {α β γ δ : Type} {F : α → β → Prop} {G : γ → δ → Prop} {f : α → γ} {g : β → δ} : ∀ {l : List α} {m : List β}, Paired F l m → (∀ a b, F a b → G (f a) (g b)) → Paired G (l.map f) (m.map g)
  | _, _, .nil, _ => .nil
  | _, _, .cons r t, h => .cons (h _ _ r) (Paired.map2 t h)
theorem Paired.snoc {α β : Type} {F : α → β → Prop} {a : α} {b : β} (r : F a b) : ∀ {l : List α} {m : List β}, Paired F l m → Paired F (l ++ [a]) (m ++ [b])
  | _, _, .nil => .cons r .nil
  | _, _, .cons h t => .cons h (Paired.snoc r t)
theorem paired_put {k : NestedKey} {a : Addr} {v : V} {u : Value} {ents : List Ent} {xs : List (NestedKey × Addr × Value)} (h : Paired PX ents xs) (r : RelV v u) : Paired PX (putX ents k a v) (storedH xs k a u) := by
  have e := (relO_valX (k := k) h).isSome_eq
  rw [Option.isSome_map] at e
  unfold putX storedH
  rw [e]
  split
  · exact Paired.map2 h fun p q h1 => by
      unfold putAt
      rw [← h1.1]
      show PX (if p.1 = k then (p.1, p.2.1, v) else p) _
      by_cases hk : p.1 = k
      · rw [if_pos hk, if_pos hk]; exact ⟨rfl, h1.2.1, r⟩
      · rw [if_neg hk, if_neg hk]; exact h1
  · exact Paired.snoc ⟨rfl, rfl, r⟩ h
section
variable {P : Program} {w : World} {H : Hp} {h : Heap} {a : Addr} {ents : List Ent}
theorem dx_rd (ok : HOk P w H h) (e : Rd H a (dx P w a ents)) : DctRaw P w a ents h := (rd_of ok e : ObjOk P w H h a (.ext (DctRaw P w a ents))).1
theorem paired_mem {α β : Type} {F : α → β → Prop} : ∀ {l : List α} {m : List β}, Paired F l m → ∀ y ∈ m, ∃ x ∈ l, F x y
  | _, _, .nil, y, h => nomatch h
  | _, _, .cons r t, y, h => by
    rcases List.mem_cons.mp h with e | h
    · subst e; exact ⟨_, by simp, r⟩
    · obtain ⟨x, hx, q⟩ := paired_mem t y h; exact ⟨x, by simp [hx], q⟩
theorem paired_keys : ∀ {ents : List Ent} {xs : List (NestedKey × Addr × Value)}, Paired PX ents xs → ents.map (·.1) = xs.map (·.1)
  | _, _, .nil => rfl
  | _, _, .cons r t => by rw [List.map_cons, List.map_cons, r.1, paired_keys t]
theorem dx_at (ok : HOk P w H h) (e : Rd H a (dx P w a ents)) (ke : ∀ x ∈ ents, KEnt H x) : ents.length ≤ sizeLine ∧ (a == sysModules) = false ∧ ∃ xs, Paired PX ents xs ∧ h.DictOfH (nestedKind P w) a xs := by
  obtain ⟨z, y, nd, xs, r, o, es, ep, h1, h2, h3, h4⟩ := dx_rd ok e
  refine ⟨z, y, xs, r, o, es, ep, h1, h2, h3, h4, fun q hq => ?_, by rw [← paired_keys r]; exact nd⟩
  obtain ⟨p, hp, e1, e2, _⟩ := paired_mem r q hq
  have k := ke p hp
  rw [← e1, ← e2]
  exact KEnt.is ok k.1 k.2
theorem dx_new {H' : Hp} {h' : Heap} {xs : List (NestedKey × Addr × Value)} (z : ents.length ≤ sizeLine) (hd : (a == sysModules) = false) (r : Paired PX ents xs) (dd : h'.DictOfH (nestedKind P w) a xs) : ObjOk P w H' h' a (dx P w a ents) := by
  obtain ⟨o, es, ep, h1, h2, h3, h4, _, h5⟩ := dd
  refine ⟨⟨z, hd, by rw [paired_keys r]; exact h5, xs, r, o, es, ep, h1, h2, h3, h4⟩, ⟨o, h1⟩, fun g1 g2 hg k => ?_⟩
  obtain ⟨z, y, nd, xs, r, o, es, ep, h1, h2, h3, h4⟩ := hg
  exact ⟨z, y, nd, xs, r, o, es, ep, k o h1, h2, h3, h4⟩
end
theorem length_putX (ents : List Ent) (k : NestedKey) (b : Addr) (v : V) : (putX ents k b v).length ≤ ents.length + 1 := by
  unfold putX; split <;> simp
/-- what the dict at a holds at the key y -/
def XGet (P : Program) (w : World) (H : Hp) (a : Addr) (y : V) (r : Option V) : Prop :=
  ∃ ents nk b, Rd H a (dx P w a ents) ∧ (∀ x ∈ ents, KEnt H x) ∧ y = .ref b ∧ KEnt H (nk, b, .non) ∧ r = valX ents nk
def XPut (P : Program) (w : World) (H : Hp) (a : Addr) (y v : V) (H' : Hp) : Prop :=
  ∃ ents nk b, H a = some (dx P w a ents) ∧ (∀ x ∈ ents, KEnt H x) ∧ y = .ref b ∧ KEnt H (nk, b, .non) ∧ ents.length < sizeLine ∧ H' = upd H a (dx P w a (putX ents nk b v))
section
variable {X : Cx} {pins : List (Addr × Obj)} {σ : L2.St} {H : Hp} {s : Shared} {a : Addr} {y v d : V} {u r : Value} {o : Option V} {A : Around} {E : Value → Shared → Prop}
theorem room_x (hu : A.units + 9 < cLine) : (nestedKind X.prog X.w).room A.in1 := by show A.units + 1 + 8 < cLine; omega
theorem xd_getItem {Q : Value → Shared → Prop} (hu : A.units + 9 < cLine) (I : Inv X pins σ H s) (g : XGet X.prog X.w H a y (some v)) (ry : RelV y u) (h : ∀ w' s', Inv X pins σ H s' → RelV v w' → Q w' s') :
    wpAny (model X.prog X.w) A (getItem (.ref a) u) Q E s := by
  obtain ⟨ents, nk, b, e, ke, ey, kb, l⟩ := g
  subst ey
  cases (show u = Value.ref b from ry)
  obtain ⟨z, hd, xs, rel, dd⟩ := dx_at I.hok e ke
  obtain ⟨w', hw, rw'⟩ := RelO.some_of (v := v) (o := (atKey xs nk).map (·.2)) (by rw [l]; exact relO_valX rel)
  obtain ⟨p, hp, hp2⟩ := Option.map_eq_some_iff.mp hw
  refine wpAny_getItem_heap (room_x hu) (KEnt.is I.hok kb.1 kb.2) dd hp ?_
  rw [hp2]
  exact h w' _ (I.tok _) rw'
theorem xd_in {Q : Value → Shared → Prop} (hu : A.units + 9 < cLine) (I : Inv X pins σ H s) (g : XGet X.prog X.w H a y o) (ry : RelV y u) (h : ∀ s', Inv X pins σ H s' → Q (.bool o.isSome) s') :
    wpAny (model X.prog X.w) A (compareOp .In u (.ref a)) Q E s := by
  obtain ⟨ents, nk, b, e, ke, ey, kb, l⟩ := g
  subst ey
  cases (show u = Value.ref b from ry)
  obtain ⟨z, hd, xs, rel, dd⟩ := dx_at I.hok e ke
  refine wpAny_in_heap (room_x hu) (KEnt.is I.hok kb.1 kb.2) hd dd ?_
  have q := (relO_valX (k := nk) rel).isSome_eq
  rw [Option.isSome_map] at q
  rw [← q, ← l]
  exact h _ (I.tok _)
theorem xd_notIn {Q : Value → Shared → Prop} (hu : A.units + 9 < cLine) (I : Inv X pins σ H s) (g : XGet X.prog X.w H a y o) (ry : RelV y u) (h : ∀ s', Inv X pins σ H s' → Q (.bool (!o.isSome)) s') :
    wpAny (model X.prog X.w) A (compareOp .NotIn u (.ref a)) Q E s := by
  obtain ⟨ents, nk, b, e, ke, ey, kb, l⟩ := g
  subst ey
  cases (show u = Value.ref b from ry)
  obtain ⟨z, hd, xs, rel, dd⟩ := dx_at I.hok e ke
  refine wpAny_notIn_heap (room_x hu) (KEnt.is I.hok kb.1 kb.2) hd dd ?_
  have q := (relO_valX (k := nk) rel).isSome_eq
  rw [Option.isSome_map] at q
  rw [← q, ← l]
  exact h _ (I.tok _)
theorem xd_get2 {Q : Value → Shared → Prop} (hu : A.units + 9 < cLine) (I : Inv X pins σ H s) (g : XGet X.prog X.w H a y o) (ry : RelV y u) (rd : RelV d r) (h : ∀ w' s', Inv X pins σ H s' → RelV (o.getD d) w' → Q w' s') :
    wpAny (model X.prog X.w) A (call (.builtin "dict.get") [.ref a, u, r]) Q E s := by
  obtain ⟨ents, nk, b, e, ke, ey, kb, l⟩ := g
  subst ey
  cases (show u = Value.ref b from ry)
  obtain ⟨z, hd, xs, rel, dd⟩ := dx_at I.hok e ke
  refine call_meetsIn PySem.F.slot_dict_get dd.typeIs PySem.F.entry_dict_get (PySem.F.args_dict_get_3 _ _ _) (meetsH_dict_get_default (nestedKind X.prog X.w) a b hd r) ⟨room_x hu, nk, xs, KEnt.is I.hok kb.1 kb.2, dd, h _ _ (I.tok _) ?_⟩
  rw [l]
  exact (relO_valX (k := nk) rel).getD rd
theorem xd_setItem {H' : Hp} {Q : Unit → Shared → Prop} (hu : A.units + 9 < cLine) (I : Inv X pins σ H s) (g : XPut X.prog X.w H a y v H') (ry : RelV y u) (rv : RelV v r) (h : ∀ s', Inv X pins σ H' s' → Q () s') :
    wpAny (model X.prog X.w) A (setItem (.ref a) u r) Q E s := by
  obtain ⟨ents, nk, b, e, ke, ey, kb, l, eH⟩ := g
  subst ey eH
  cases (show u = Value.ref b from ry)
  obtain ⟨z, hd, xs, rel, dd⟩ := dx_at I.hok (.inl e) ke
  have hz : xs.length ≤ sizeLine := by rw [← Paired.length rel]; exact z
  have hl : (putX ents nk b v).length ≤ sizeLine := by have := length_putX ents nk b v; omega
  refine wpAny_setItem_heap (hsz := hz) (room_x hu) (KEnt.is I.hok kb.1 kb.2) dd fun h' dd' hs => h _ ?_
  obtain ⟨q, es, ep, hq, _⟩ := id dd'
  exact d_write I (by rw [e]; exact True.intro) hs ⟨q, hq⟩ (dx_new hl hd (paired_put rel rv) dd')
theorem xd_typeIs (I : Inv X pins σ H s) {ents : List Ent} (e : Rd H a (dx X.prog X.w a ents)) : s.TypeIs (.ref a) "dict" ∧ (∀ b, Value.ref a = .ref b → ∃ ob, s.heap.get? b = some ob ∧ ob.dict = none) ∧ (a == sysModules) = false := by
  obtain ⟨z, y, nd, xs, r, o, es, ep, h1, h2, h3, h4⟩ := dx_rd I.hok e
  refine ⟨⟨o, h1, h2.1⟩, fun b q => ?_, y⟩
  cases q
  exact ⟨o, h1, h2.2.1⟩
/-- {} -/
theorem dx_empty {P : Program} {w : World} {H : Hp} (h : Heap) (hb : sysModules < h.objs.size) : ObjOk P w H (h.push { cls := .type "dict", data := .dict #[] }) h.objs.size (dx P w h.objs.size []) :=
  dx_new (Nat.zero_le _) (beq_eq_false_iff_ne.mpr (Ne.symm (Nat.ne_of_lt hb))) .nil (Heap.DictOfH.new h)
end
end Sf
end

section
set_option Elab.async false
set_option maxRecDepth 100000
set_option linter.all false
/-! Sd2: dicts of the store: reading, writing. -/
namespace Sf
open PySem PySem.Spec PyProof.Rows L2

def keyEq (a b : D) : Bool := match D.key a, D.key b with
  | some x, some y => NestedKey.beq x y
  | _, _ => false
def isT : D → Bool
  | .tup _ => true
  | _ => false
def keyOk (k : D) : Bool := isT k && (match D.key k with
  | some nk => Nat.ble nk.depth 8
  | none => false)
def getX (kvs : List (D × D)) (k : D) : Option D := (kvs.find? fun p => keyEq p.1 k).map (·.2)
def putXD (kvs : List (D × D)) (k v : D) : List (D × D) := bif (getX kvs k).isSome then kvs.map (fun p => bif keyEq p.1 k then (p.1, v) else p) else kvs ++ [(k, v)]
def getI (kvs : List (Int × D)) (k : Int) : Option D := (kvs.find? fun p => decide (p.1 = k)).map (·.2)
def putI (kvs : List (Int × D)) (k : Int) (v : D) : List (Int × D) := bif (getI kvs k).isSome then kvs.map (fun p => bif decide (p.1 = k) then (p.1, v) else p) else kvs ++ [(k, v)]
theorem keyOk_ok {k : D} (h : keyOk k = true) : ∃ l nk, k = .tup l ∧ D.key k = some nk ∧ nk.depth ≤ 8 := by
  unfold keyOk at h
  rw [Bool.and_eq_true] at h
  obtain ⟨h1, h2⟩ := h
  cases k with
  | tup l =>
    cases q : D.key (.tup l) with
    | none => rw [q] at h2; cases h2
    | some nk => rw [q] at h2; exact ⟨l, nk, rfl, rfl, Nat.le_of_ble_eq_true h2⟩
  | _ => cases h1
section
variable {G : Pg} {B L ρ : List Addr} {S S' : Sto} {H : Hp}
theorem rks_kent : ∀ {kvs : List (D × D)} {ents : List Ent}, RKs G B ρ H kvs ents → ∀ e ∈ ents, KEnt H e
  | _, _, .nil, e, h => nomatch h
  | _, _, .cons h1 h2 h3 _ r, e, h => by
    rcases List.mem_cons.mp h with q | h
    · subst q; exact ⟨kis_rv _ _ _ h2 h1, h3⟩
    · exact rks_kent r e h
theorem rks_val {k : D} {nk : NestedKey} (hk : D.key k = some nk) : ∀ {kvs : List (D × D)} {ents : List Ent}, RKs G B ρ H kvs ents →
    (getX kvs k = none ∧ valX ents nk = none) ∨ ∃ d v, getX kvs k = some d ∧ valX ents nk = some v ∧ RV G.K B ρ H d v
  | _, _, .nil => .inl ⟨rfl, rfl⟩
  | _, _, .cons (k := k') (d := d) (nk := nk') (ka := ka) (v := v) h1 h2 h3 h4 r => by
    have ih := rks_val hk r
    have e : keyEq k' k = decide (nk' = nk) := by unfold keyEq; rw [h1, hk]; exact (NestedKey.decide_eq nk' nk).symm
    unfold getX valX at ih ⊢
    rw [List.find?_cons, List.find?_cons]
    show (_ ∧ _) ∨ _
    rw [e]
    by_cases c : nk' = nk
    · simp only [c, decide_true]; exact .inr ⟨d, v, rfl, rfl, h4⟩
    · simp only [c, decide_false]; exact ih
theorem rks_map {k d : D} {nk : NestedKey} {v : V} (hk : D.key k = some nk) (rv : RV G.K B ρ H d v) : ∀ {kvs : List (D × D)} {ents : List Ent}, RKs G B ρ H kvs ents →
    RKs G B ρ H (kvs.map fun p => bif keyEq p.1 k then (p.1, d) else p) (ents.map fun e => if e.1 = nk then (e.1, e.2.1, v) else e)
  | _, _, .nil => .nil
  | _, _, .cons (k := k') (d := d') (nk := nk') (ka := ka) (v := v') h1 h2 h3 h4 r => by
    have e : keyEq k' k = decide (nk' = nk) := by unfold keyEq; rw [h1, hk]; exact (NestedKey.decide_eq nk' nk).symm
    rw [List.map_cons, List.map_cons]
    simp only [e]
    by_cases c : nk' = nk
    · rw [decide_eq_true c, if_pos c]; exact .cons h1 h2 h3 rv (rks_map hk rv r)
    · rw [decide_eq_false c, if_neg c]; exact .cons h1 h2 h3 h4 (rks_map hk rv r)
theorem rks_app : ∀ {kvs kvs' : List (D × D)} {ents ents' : List Ent}, RKs G B ρ H kvs ents → RKs G B ρ H kvs' ents' → RKs G B ρ H (kvs ++ kvs') (ents ++ ents')
  | _, _, _, _, .nil, s => s
  | _, _, _, _, .cons h1 h2 h3 h4 r, s => .cons h1 h2 h3 h4 (rks_app r s)
theorem rks_put {k d : D} {nk : NestedKey} {ka : Addr} {v : V} (hk : D.key k = some nk) (rk : RV G.K B ρ H k (.ref ka)) (hd : nk.depth ≤ 8) (rv : RV G.K B ρ H d v) {kvs : List (D × D)} {ents : List Ent} (r : RKs G B ρ H kvs ents) :
    RKs G B ρ H (putXD kvs k d) (putX ents nk ka v) := by
  unfold putXD putX
  rcases rks_val hk r with ⟨h1, h2⟩ | ⟨d', v', h1, h2, _⟩
  · rw [h1, h2]
    exact rks_app r (.cons hk rk hd rv .nil)
  · rw [h1, h2]
    exact rks_map hk rv r
theorem rks_len : ∀ {kvs : List (D × D)} {ents : List Ent}, RKs G B ρ H kvs ents → kvs.length = ents.length
  | _, _, .nil => rfl
  | _, _, .cons _ _ _ _ r => by rw [List.length_cons, List.length_cons, rks_len r]
theorem ris_val {i : Int} : ∀ {kvs : List (Int × D)} {ents : List (L2.Key × V)}, RIs G B ρ H kvs ents →
    (getI kvs i = none ∧ valV ents (Sum.inl i) = none) ∨ ∃ d v, getI kvs i = some d ∧ valV ents (Sum.inl i) = some v ∧ RV G.K B ρ H d v
  | _, _, .nil => .inl ⟨rfl, rfl⟩
  | _, _, .cons (i := j) (d := d) (v := v) h4 r => by
    have ih := ris_val (i := i) r
    unfold getI valV at ih ⊢
    rw [List.find?_cons, List.find?_cons]
    have e : decide ((Sum.inl j : L2.Key) = Sum.inl i) = decide (j = i) := by simp
    show (_ ∧ _) ∨ _
    simp only [e]
    by_cases c : j = i
    · simp only [c, decide_true]; exact .inr ⟨d, v, rfl, rfl, h4⟩
    · simp only [c, decide_false]; exact ih
theorem ris_map {i : Int} {d : D} {v : V} (rv : RV G.K B ρ H d v) : ∀ {kvs : List (Int × D)} {ents : List (L2.Key × V)}, RIs G B ρ H kvs ents →
    RIs G B ρ H (kvs.map fun p => bif decide (p.1 = i) then (p.1, d) else p) (ents.map fun e => if e.1 = Sum.inl i then (e.1, v) else e)
  | _, _, .nil => .nil
  | _, _, .cons (i := j) (d := d') (v := v') h4 r => by
    rw [List.map_cons, List.map_cons]
    by_cases c : j = i
    · simp only [c, decide_true, if_true]; exact .cons rv (ris_map rv r)
    · have c' : ¬ ((Sum.inl j : L2.Key) = Sum.inl i) := fun z => c (by cases z; rfl)
      simp only [c, c', decide_false, if_false]; exact .cons h4 (ris_map rv r)
theorem ris_app : ∀ {kvs kvs' : List (Int × D)} {ents ents' : List (L2.Key × V)}, RIs G B ρ H kvs ents → RIs G B ρ H kvs' ents' → RIs G B ρ H (kvs ++ kvs') (ents ++ ents')
  | _, _, _, _, .nil, s => s
  | _, _, _, _, .cons h4 r, s => .cons h4 (ris_app r s)
theorem any_valV {κ : Type} [DecidableEq κ] (kvs : List (κ × V)) (k : κ) : (kvs.any fun kv => decide (kv.1 = k)) = (valV kvs k).isSome := by
  unfold valV
  induction kvs with
  | nil => rfl
  | cons p l ih =>
    rw [List.any_cons, List.find?_cons]
    by_cases c : p.1 = k
    · simp [c]
    · simp only [c, decide_false, Bool.false_or]; exact ih
theorem ris_put {i : Int} {d : D} {v : V} (rv : RV G.K B ρ H d v) {kvs : List (Int × D)} {ents : List (L2.Key × V)} (r : RIs G B ρ H kvs ents) : RIs G B ρ H (putI kvs i d) (putK ents (Sum.inl i) v) := by
  unfold putI putK
  rw [any_valV]
  rcases ris_val (i := i) r with ⟨h1, h2⟩ | ⟨d', v', h1, h2, _⟩
  · rw [h1, h2]; exact ris_app r (.cons rv .nil)
  · rw [h1, h2]; exact ris_map rv r
theorem ris_len : ∀ {kvs : List (Int × D)} {ents : List (L2.Key × V)}, RIs G B ρ H kvs ents → kvs.length = ents.length
  | _, _, .nil => rfl
  | _, _, .cons _ r => by rw [List.length_cons, List.length_cons, ris_len r]
theorem lk_rd {lk : Bool} {a : Addr} {u : HO} (h : LkAt L H lk a u) : Rd H a u := by
  unfold LkAt at h
  split at h
  · obtain ⟨_, od, e⟩ := h; exact .inr ⟨od, e⟩
  · exact .inl h
end
end Sf
end

section
set_option Elab.async false
set_option maxRecDepth 100000
set_option linter.all false
/-! Sd3: dicts: displays, d[k], k in d, d.get(k, x), d[k] = v. -/
namespace Sf
open PySem PySem.Spec PyProof.Rows L2
theorem RH.addX {G : Pg} {B ρ L : List Addr} {H : Hp} {S : Sto} {p : Addr} {ob : Ob} (R : RH G (p :: B) L ρ H S) (hb : p ∉ B) (q : RO G B L (ρ ++ [p]) H p ob) : RH G B L (ρ ++ [p]) H (S ++ [ob]) := by
  have hB : ∀ a, a ∈ B ∨ a ∈ ρ ++ [p] → a ∈ p :: B ∨ a ∈ ρ := fun a z => z.elim (fun z => .inl (List.mem_cons_of_mem _ z)) fun z => (List.mem_append.mp z).elim .inr fun z => .inl (by simp at z; rw [z]; exact List.mem_cons_self)
  have hp : ∀ (n : Nat) (a : Addr), ρ[n]? = some a → (ρ ++ [p])[n]? = some a := fun n a z => by rw [List.getElem?_append_left (List.getElem?_eq_some_iff.mp z).1]; exact z
  refine ⟨by simp [R.len], ?_, fun a ha => (List.mem_append.mp ha).elim (fun z q => R.dj a z (List.mem_cons_of_mem _ q)) fun z => by simp at z; rw [z]; exact hb, fun b hb => R.avo b (List.mem_cons_of_mem _ hb), R.lk, fun n a o h1 h2 => ?_⟩
  · rw [List.nodup_append]
    refine ⟨R.nd, by simp, fun a ha b hb => ?_⟩
    simp at hb; subst hb
    rintro rfl
    exact R.dj _ ha List.mem_cons_self
  · by_cases hn : n < ρ.length
    · rw [List.getElem?_append_left hn] at h1
      rw [List.getElem?_append_left (by rw [← R.len]; exact hn)] at h2
      exact (R.ob n a o h1 h2).re hB hp
    · have hn' : n = ρ.length := by
        have := (List.getElem?_eq_some_iff.mp h1).1
        simp at this; omega
      subst hn'
      rw [List.getElem?_append_right (Nat.le_refl _)] at h1
      rw [R.len, List.getElem?_append_right (Nat.le_refl _)] at h2
      simp at h1 h2
      subst h1; subst h2
      exact q
section
variable {prog : Program} {w : World} {K : Type} [DecidableEq K] {knd : HeapKind prog w K} {A : Around} {E : Value → Shared → Prop} {s : Shared} {env : Env}
/-- a display: the entries with their keys' places -/
theorem wpAny_Dict_pairsH1 {keys : List (Option Expr)} {values : List Expr} {pos : Pos} {Q : Value → Shared → Prop} (hu : knd.room A)
    (hall : keys.all (·.isSome) = true) (hl : keys.length = values.length) (h0 : keys ≠ []) (hlen : keys.length ≤ 15)
    (h : wpAny (model prog w) A (evalPairs (pairTrees keys values env pos)) (fun vs s₁ => ∃ ps, CarriesH knd s₁.heap vs ps ∧ s₁.heap.DictOfH knd s.heap.objs.size [] ∧
      ∀ h' tk, h'.DictOfH knd s.heap.objs.size (storedAllH [] ps) → Heap.SameBut s.heap.objs.size s₁.heap h' → Q (.ref s.heap.objs.size) { s₁ with heap := h', toks := tk }) E
      { s with heap := s.heap.push { cls := .type "dict", data := .dict #[] } }) :
    wpAny (model prog w) A (eval (.Dict keys values pos) env) Q E s := by
  have hn := pairTrees_length keys values env pos hall hl
  have hne : pairTrees keys values env pos ≠ [] := fun he => by rw [he] at hn; exact h0 (List.length_eq_zero_iff.mp hn.symm)
  rw [arm_eval_Dict, zip_pairTrees keys values env pos hall hl, dictDisplay_pairs _ hne (by rw [hn]; omega)]
  exact wpAny_bind (wpAny_standAt (wpAny_bind (wpAny_subDictH (knd := knd) (Q := fun d s' => wpAny (model prog w) A (pure (Value.ref d)) Q E s') hu (by rw [hn]; exact hlen)
    (wpAny_mono h (fun vs s₁ h₁ => by obtain ⟨ps, hc, hm, hq⟩ := h₁; exact ⟨ps, hc, hm, fun h' tk a b => wpAny_pure (hq h' tk a b)⟩) fun _ _ e => e))))
end
def fDct0 : FE := fun _ S => .ok (.loc S.length) (S ++ [.dct false []])
def fDki0 : FE := fun _ S => .ok (.loc S.length) (S ++ [.dki false []])
def fDct1 (fk fv : FE) : FE := fun env S => match fk env S with
  | .ok k S1 => (match fv env S1 with
    | .ok v S2 => bif keyOk k then .ok (.loc S2.length) (S2 ++ [.dct false [(k, v)]]) else .bad
    | _ => .bad)
  | _ => .bad
section
variable {X : Cx} {w : Wx} {pos : Pos}
theorem loc_last {ρ : List Addr} {S : Sto} {p : Addr} (h : ρ.length = S.length) : (ρ ++ [p])[S.length]? = some p := by
  rw [← h, List.getElem?_append_right (Nat.le_refl _)]; simp
theorem se_dct0 : SE X w (.Dict [] [] pos) fDct0 := ⟨fun pins s σ H Q I ⟨B, L, ρ, S, env, A, g⟩ =>
  wpAny_Dict_empty ⟨.ref s.heap.objs.size, _, I.laid (a := s.heap.objs.size) (o := dx X.prog X.w s.heap.objs.size []) (t' := s.toks) (fun _ _ q => Heap.get?_push_of_some _ q) (Nat.le_refl _) (dx_empty s.heap I.big), rfl, by
    have hp := I.hok.fresh (Nat.le_refl s.heap.objs.size)
    exact g _ (ρ ++ [s.heap.objs.size]) _ (Post.newL hp) (A.rh.newL hp ⟨[], upd_same, .nil⟩) (.loc (loc_last A.rh.len))⟩⟩
theorem se_dki0 : SE X w (.Dict [] [] pos) fDki0 := ⟨fun pins s σ H Q I ⟨B, L, ρ, S, env, A, g⟩ =>
  wpAny_Dict_empty ⟨.ref s.heap.objs.size, _, I.laid (a := s.heap.objs.size) (o := .dK []) (t' := s.toks) (fun _ _ q => Heap.get?_push_of_some _ q) (Nat.le_refl _) (dk_empty s.heap I.big), rfl, by
    have hp := I.hok.fresh (Nat.le_refl s.heap.objs.size)
    exact g _ (ρ ++ [s.heap.objs.size]) _ (Post.newL hp) (A.rh.newL hp ⟨[], upd_same, .nil⟩) (.loc (loc_last A.rh.len))⟩⟩
theorem se_dct1 {k v : Expr} {fk fv : FE} (hu : X.A.units + 9 < cLine) (hk : SE X w k fk) (hv : SE X w v fv) : SE X w (.Dict [some k] [v] pos) (fDct1 fk fv) := by
  refine ⟨fun pins s σ H Q I ⟨B, L, ρ, S, env, A, g⟩ => ?_⟩
  have hp := I.hok.fresh (Nat.le_refl s.heap.objs.size)
  have I1 := I.laid (a := s.heap.objs.size) (o := dx X.prog X.w s.heap.objs.size []) (h' := s.heap.push { cls := .type "dict", data := .dict #[] }) (t' := s.toks) (fun _ _ q => Heap.get?_push_of_some _ q) (Nat.le_refl _) (dx_empty s.heap I.big)
  generalize hpe : s.heap.objs.size = p at *
  have hpB : p ∉ B := (A.rh.fresh hp).2
  have hpρ : p ∉ ρ := (A.rh.fresh hp).1
  have hpL : p ∉ L := fun z => by obtain ⟨o, u, q⟩ := A.rh.lk p z; rw [hp] at q; cases q
  have A1 : At (pg X) (p :: B) L ρ S env σ (upd H p (dx X.prog X.w p [])) := ⟨A.rh.addB hp, A.re.addB hp⟩
  have P1 : Post L ρ H ρ (upd H p (dx X.prog X.w p [])) := Post.newV hp
  unfold fDct1 at g
  cases h1 : fk env S with
  | exc c S1 => rw [h1] at g; exact g.elim
  | bad => rw [h1] at g; exact g.elim
  | ok dk S1 =>
  rw [h1] at g
  simp only at g
  cases h2 : fv env S1 with
  | exc c S2 => rw [h2] at g; exact g.elim
  | bad => rw [h2] at g; exact g.elim
  | ok dv S2 =>
  rw [h2] at g
  simp only at g
  cases h3 : keyOk dk with
  | false => rw [h3] at g; exact g.elim
  | true =>
  rw [h3] at g
  obtain ⟨lk, nk, rfl, hnk, hd⟩ := keyOk_ok h3
  refine wpAny_Dict_pairsH1 (knd := nestedKind X.prog X.w) (show X.A.units + 8 < cLine by omega) (by simp) rfl (by simp) (by simp) ?_
  rw [hpe]
  refine pairTrees_cons_walk (thn (hk.run pins _ σ _ (fun x H' => ∃ ρ', Post L ρ (upd H p (dx X.prog X.w p [])) ρ' H' ∧ RH (pg X) (p :: B) L ρ' H' S1 ∧ RV X.K (p :: B) ρ' H' (.tup lk) x) I1 ⟨p :: B, L, ρ, S, env, A1, ?_⟩) fun u1 s1 ⟨x, H1, I2, r1, ρ1, P2, R2, rk⟩ =>
    thn (hv.run pins s1 σ H1 (fun y H' => ∃ ρ', Post L ρ1 H1 ρ' H' ∧ RH (pg X) (p :: B) L ρ' H' S2 ∧ RV X.K (p :: B) ρ' H' dv y) I2 ⟨p :: B, L, ρ1, S1, env, A1.step P2 R2, ?_⟩) fun u2 s2 ⟨y, H2, I3, r2, ρ2, P3, R3, rv⟩ => pairTrees_nil_walk ?_)
  · rw [h1]; exact fun v ρ' H' p' R r => ⟨ρ', p', R, r⟩
  · rw [h2]; exact fun v ρ' H' p' R r => ⟨ρ', p', R, r⟩
  · have rk2 := rk.mono P3
    cases rk2 with
    | @tup ka vs _ hka hks =>
    cases (show u1 = Value.ref ka from r1)
    have kb : KEnt H2 (nk, ka, y) := ⟨kis_rv _ _ _ (.tup hka hks) hnk, hd⟩
    have e2 : H2 p = some (dx X.prog X.w p []) := by
      have hp1 : p ∉ ρ1 := fun z => R2.dj p z List.mem_cons_self
      exact P3.ext p _ (.inl hp1) (P2.ext p _ (.inl hpρ) upd_same)
    have hp2 : p ∉ ρ2 := fun z => R3.dj p z List.mem_cons_self
    obtain ⟨z, hsy, xs, rel, dd⟩ := dx_at I3.hok (.inl e2) (fun e he => nomatch he)
    cases rel
    refine ⟨[(nk, ka, u2)], ⟨rfl, rfl, KEnt.is I3.hok kb.1 kb.2, trivial⟩, dd, fun h' tk dd' hs => ?_⟩
    obtain ⟨q, es, ep, hq, _⟩ := id dd'
    have I4 := d_write (t' := tk) I3 (a := p) (ob := dx X.prog X.w p [(nk, ka, y)]) (by rw [e2]; exact True.intro) hs ⟨q, hq⟩ (dx_new (by show 1 ≤ sizeLine; rw [sizeLine_eq]; omega) hsy (.cons ⟨rfl, rfl, r2⟩ .nil) dd')
    refine ⟨.ref p, _, I4, rfl, g _ (ρ2 ++ [p]) _ ?_ ((R3.av (u := dx X.prog X.w p [(nk, ka, y)]) List.mem_cons_self hpL).addX hpB ⟨[(nk, ka, y)], upd_same, ?_⟩) (.loc (loc_last R3.len))⟩
    · have P := (P1.trans P2).trans P3
      refine ⟨fun a u ha hu => ?_, ?_, fun a ha => ?_⟩
      · rw [upd_ne (ne_of_none hu hp)]; exact P.ext a u ha hu
      · obtain ⟨t, e⟩ := P.pre; exact ⟨t ++ [p], by rw [e, List.append_assoc]⟩
      · rcases List.mem_append.mp ha with ha | ha
        · exact P.new a ha
        · simp at ha; rw [ha]; exact .inr hp
    · have hB : ∀ a, a ∈ B ∨ a ∈ ρ2 ++ [p] → a ∈ p :: B ∨ a ∈ ρ2 := fun a z => z.elim (fun z => .inl (List.mem_cons_of_mem _ z)) fun z => (List.mem_append.mp z).elim .inr fun z => .inl (by simp at z; rw [z]; exact List.mem_cons_self)
      have hp' : ∀ (n : Nat) (a : Addr), ρ2[n]? = some a → (ρ2 ++ [p])[n]? = some a := fun n a z => by rw [List.getElem?_append_left (List.getElem?_eq_some_iff.mp z).1]; exact z
      exact .cons hnk (((RV.tup hka hks).av List.mem_cons_self).re hB hp') hd ((rv.av List.mem_cons_self).re hB hp') .nil
end
end Sf
end

section
set_option Elab.async false
set_option maxRecDepth 100000
set_option linter.all false
/-! Sd4: dicts: d[k], k in d, d.get(k, x), d[k] = v, d != {}. -/
namespace Sf
open PySem PySem.Spec PyProof.Rows L2
def findD (o k : D) (S : Sto) : Option (Option D) := match o with
  | .loc n => match S[n]? with
    | some (.dct _ kvs) => bif keyOk k then some (getX kvs k) else none
    | some (.dki _ kvs) => (match k with
      | .int i => some (getI kvs i)
      | _ => none)
    | _ => none
  | _ => none
def oGetX : Op2 := fun x y S => match findD x y S with
  | some (some d) => some (d, S)
  | _ => none
def oInX : Op2 := fun y x S => match findD x y S with
  | some r => some (.bl r.isSome, S)
  | none => none
def oNinX : Op2 := fun y x S => match findD x y S with
  | some r => some (.bl (!r.isSome), S)
  | none => none
def XDG (P : Program) (w : World) (H : Hp) (a : Addr) (y : V) (r : Option V) : Prop := XGet P w H a y r ∨ DGet H a y r
theorem findD_ok {G : Pg} {B L ρ : List Addr} {S : Sto} {H : Hp} {o k : D} {x y : V} {r : Option D} (R : RH G B L ρ H S) (ro : RV G.K B ρ H o x) (rk : RV G.K B ρ H k y) (e : findD o k S = some r) :
    ∃ a v, x = .ref a ∧ XDG G.P G.w H a y v ∧ ((r = none ∧ v = none) ∨ ∃ d u, r = some d ∧ v = some u ∧ RV G.K B ρ H d u) := by
  cases ro with
  | @loc n a h =>
    unfold findD at e
    simp only at e
    cases q : S[n]? with
    | none => rw [q] at e; cases e
    | some ob =>
      rw [q] at e
      cases ob with
      | dct lk kvs =>
        simp only at e
        cases hk : keyOk k with
        | false => rw [hk] at e; cases e
        | true =>
          rw [hk] at e; cases e
          obtain ⟨l, nk, rfl, hnk, hd⟩ := keyOk_ok hk
          obtain ⟨ents, h1, h2⟩ := R.ob n a _ h q
          cases rk with
          | @tup ka vs _ hka hks =>
          refine ⟨a, valX ents nk, rfl, .inl ⟨ents, nk, ka, lk_rd h1, rks_kent h2, rfl, ⟨kis_rv _ _ _ (.tup hka hks) hnk, hd⟩, rfl⟩, ?_⟩
          rcases rks_val hnk h2 with ⟨e1, e2⟩ | ⟨d, v, e1, e2, r⟩
          · exact .inl ⟨e1, e2⟩
          · exact .inr ⟨d, v, e1, e2, r⟩
      | dki lk kvs =>
        simp only at e
        cases rk with
        | int i =>
          cases e
          obtain ⟨ents, h1, h2⟩ := R.ob n a _ h q
          refine ⟨a, valV ents (Sum.inl i), rfl, .inr (.inl ⟨ents, Sum.inl i, lk_rd h1, rfl, rfl⟩), ?_⟩
          rcases ris_val (i := i) h2 with ⟨e1, e2⟩ | ⟨d, v, e1, e2, r⟩
          · exact .inl ⟨e1, e2⟩
          · exact .inr ⟨d, v, e1, e2, r⟩
        | _ => cases e
      | _ => cases e
  | _ => cases e
section
variable {X : Cx} {pins : List (Addr × Obj)} {σ : L2.St} {H : Hp} {s : Shared} {a : Addr} {y v d : V} {u r : Value} {o : Option V} {A : Around} {E : Value → Shared → Prop}
theorem xdg_type (I : Inv X pins σ H s) (g : XDG X.prog X.w H a y o) : s.TypeIs (.ref a) "dict" := by
  rcases g with ⟨ents, nk, b, e, _⟩ | g
  · exact (xd_typeIs I e).1
  · exact dict_typeIs I g
theorem xdg_get {Q : Value → Shared → Prop} (hu : A.units + 9 < cLine) (I : Inv X pins σ H s) (g : XDG X.prog X.w H a y (some v)) (ry : RelV y u) (h : ∀ w' s', Inv X pins σ H s' → RelV v w' → Q w' s') :
    wpAny (model X.prog X.w) A (getItem (.ref a) u) Q E s := g.elim (fun g => xd_getItem hu I g ry h) fun g => d_getItem (by omega) I g ry h
abbrev rIxX (P : Program) (w : World) : R2 := fun x y H Q => ∃ a v, x = .ref a ∧ XDG P w H a y (some v) ∧ Q v H
theorem ix_x (hu : X.A.units + 9 < cLine) : IxR X (rIxX X.prog X.w) := by
  intro value slice pins s σ H x y v u Q I rx ry h hs
  obtain ⟨a, r, rfl, g, q⟩ := h
  cases (show v = Value.ref a from rx)
  exact tail_any (xdg_type I g) slot_dict_getitem.lookup (xdg_get hu I g ry fun w' s' I' r' => ⟨r, H, I', r', q⟩) hs
theorem op_inX (hu : X.A.units + 9 < cLine) : OpR X (compareOp .In) (fun y x H Q => ∃ a o, x = .ref a ∧ XDG X.prog X.w H a y o ∧ Q (.bl o.isSome) H) := by
  intro pins s σ H y x v u Q I ry rx h
  obtain ⟨a, o, rfl, g, q⟩ := h
  cases (show u = Value.ref a from rx)
  exact g.elim (fun g => xd_in hu I g ry fun s' I' => ⟨.bl o.isSome, H, I', rfl, q⟩) fun g => d_in (by omega) I g ry fun s' I' => ⟨.bl o.isSome, H, I', rfl, q⟩
theorem op_ninX (hu : X.A.units + 9 < cLine) : OpR X (compareOp .NotIn) (fun y x H Q => ∃ a o, x = .ref a ∧ XDG X.prog X.w H a y o ∧ Q (.bl (!o.isSome)) H) := by
  intro pins s σ H y x v u Q I ry rx h
  obtain ⟨a, o, rfl, g, q⟩ := h
  cases (show u = Value.ref a from rx)
  exact g.elim (fun g => xd_notIn hu I g ry fun s' I' => ⟨.bl (!o.isSome), H, I', rfl, q⟩) fun g => d_notIn (by omega) I g ry fun s' I' => ⟨.bl (!o.isSome), H, I', rfl, q⟩
theorem ok_getX : Ok2 (pg X) (rIxX X.prog X.w) oGetX := by
  intro B L ρ S S' H d1 d2 d' x y Q R r1 r2 e q
  unfold oGetX at e
  cases h : findD d1 d2 S with
  | none => rw [h] at e; cases e
  | some r =>
    rw [h] at e
    cases r with
    | none => cases e
    | some d =>
      cases e
      obtain ⟨a, v, rfl, g, k⟩ := findD_ok R r1 r2 h
      rcases k with ⟨k, _⟩ | ⟨d2, u, k1, k2, k3⟩
      · cases k
      · cases k1; subst k2
        exact ⟨a, u, rfl, g, here q R k3⟩
theorem ok_inX : Ok2 (pg X) (fun y x H Q => ∃ a o, x = .ref a ∧ XDG X.prog X.w H a y o ∧ Q (.bl o.isSome) H) oInX := by
  intro B L ρ S S' H d1 d2 d' x y Q R r1 r2 e q
  unfold oInX at e
  cases h : findD d2 d1 S with
  | none => rw [h] at e; cases e
  | some r =>
    rw [h] at e
    cases e
    obtain ⟨a, v, rfl, g, k⟩ := findD_ok R r2 r1 h
    refine ⟨a, v, rfl, g, ?_⟩
    have e : v.isSome = r.isSome := by rcases k with ⟨k1, k2⟩ | ⟨d2, u, k1, k2, k3⟩ <;> rw [k1, k2] <;> rfl
    rw [e]; exact here q R (.bl _)
theorem ok_ninX : Ok2 (pg X) (fun y x H Q => ∃ a o, x = .ref a ∧ XDG X.prog X.w H a y o ∧ Q (.bl (!o.isSome)) H) oNinX := by
  intro B L ρ S S' H d1 d2 d' x y Q R r1 r2 e q
  unfold oNinX at e
  cases h : findD d2 d1 S with
  | none => rw [h] at e; cases e
  | some r =>
    rw [h] at e
    cases e
    obtain ⟨a, v, rfl, g, k⟩ := findD_ok R r2 r1 h
    refine ⟨a, v, rfl, g, ?_⟩
    have e : v.isSome = r.isSome := by rcases k with ⟨k1, k2⟩ | ⟨d2, u, k1, k2, k3⟩ <;> rw [k1, k2] <;> rfl
    rw [e]; exact here q R (.bl _)
end
/-! d[k] = v -/
def setX (o k v : D) (S : Sto) : Option Sto := match o with
  | .loc n => match S[n]? with
    | some (.dct false kvs) => bif keyOk k && fitS kvs.length then some (S.set n (.dct false (putXD kvs k v))) else none
    | some (.dki false kvs) => (match k with
      | .int i => bif fitS kvs.length then some (S.set n (.dki false (putI kvs i v))) else none
      | _ => none)
    | _ => none
  | _ => none
def sAsgX (fe fo fi : FE) : FS := fun env S => (fe env S).bindS fun x S1 => (fo env S1).bindS fun o S2 => (fi env S2).bindS fun i S3 => match setX o i x S3 with
  | some S4 => .nx env S4
  | none => .bad
abbrev rSetX (P : Program) (w : World) : TSet := fun x y v H Q => ∃ a H', x = .ref a ∧ (XPut P w H a y v H' ∨ DPut H a y v H') ∧ Q H'
theorem set_x {X : Cx} (hu : X.A.units + 9 < cLine) : PSet X (rSetX X.prog X.w) := by
  intro pins s σ H o i v ov iv u Q I ro ri rv h
  obtain ⟨a, H', rfl, g, q⟩ := h
  cases (show ov = Value.ref a from ro)
  exact g.elim (fun g => xd_setItem hu I g ri rv fun s' I' => ⟨H', I', q⟩) fun g => d_setItem (by omega) I g ri rv fun s' I' => ⟨H', I', q⟩
theorem setX_ok {G : Pg} {B L ρ : List Addr} {S S' : Sto} {H : Hp} {o i v : D} {ov iv vv : V} {Q : Hp → Prop} (R : RH G B L ρ H S) (ro : RV G.K B ρ H o ov) (ri : RV G.K B ρ H i iv) (rv : RV G.K B ρ H v vv) (e : setX o i v S = some S')
    (q : ∀ H', Post L ρ H ρ H' → RH G B L ρ H' S' → Q H') : rSetX G.P G.w ov iv vv H Q := by
  cases ro with
  | @loc n a h =>
    unfold setX at e
    simp only at e
    cases q1 : S[n]? with
    | none => rw [q1] at e; cases e
    | some ob =>
      rw [q1] at e
      cases ob with
      | dct lk kvs =>
        cases lk with
        | true => cases e
        | false =>
        simp only at e
        cases hk : keyOk i && fitS kvs.length with
        | false => rw [hk] at e; cases e
        | true =>
          rw [hk] at e; cases e
          rw [Bool.and_eq_true] at hk
          obtain ⟨l, nk, rfl, hnk, hd⟩ := keyOk_ok hk.1
          obtain ⟨ents, h1, h2⟩ := R.ob n a _ h q1
          have h1 : H a = some (dx G.P G.w a ents) := h1
          have hl : a ∉ L := R.notL h1 fun _ _ z => nomatch z
          cases ri with
          | @tup ka vs _ hka hks =>
          refine ⟨a, _, rfl, .inl ⟨ents, nk, ka, h1, rks_kent h2, rfl, ⟨kis_rv _ _ _ (.tup hka hks) hnk, hd⟩, by rw [← rks_len h2]; exact fitS_lt hk.2, rfl⟩, ?_⟩
          exact q _ (Post.wr h hl) (R.wr h hl ⟨_, upd_same, RKs.mono (Post.wr (L := L) h hl) (rks_put hnk (.tup hka hks) hd rv h2)⟩)
      | dki lk kvs =>
        cases lk with
        | true => cases e
        | false =>
        simp only at e
        cases ri with
        | int j =>
          simp only at e
          cases hk : fitS kvs.length with
          | false => rw [hk] at e; cases e
          | true =>
            rw [hk] at e; cases e
            obtain ⟨ents, h1, h2⟩ := R.ob n a _ h q1
            have h1 : H a = some (.dK ents) := h1
            have hl : a ∉ L := R.notL h1 fun _ _ z => nomatch z
            refine ⟨a, _, rfl, .inr (.inl ⟨ents, Sum.inl j, h1, rfl, by rw [← ris_len h2]; exact fitS_lt hk, rfl⟩), ?_⟩
            exact q _ (Post.wr h hl) (R.wr h hl ⟨_, upd_same, RIs.mono (Post.wr (L := L) h hl) (ris_put rv h2)⟩)
        | _ => cases e
      | _ => cases e
  | _ => cases e
section
variable {X : Cx} {w : Wx} {e : Expr} {fe fo fi : FE} {pos : Pos}
theorem ss_setX {o i : Expr} {opos : Pos} (hu : X.A.units + 9 < cLine) (he : SE X w e fe) (ho : SE X w o fo) (hi : SE X w i fi) (hs : swapsWithSole [.Subscript o i opos] e pos.line X.env = pure false := by rfl) (hw : swappedStores [.Subscript o i opos] e X.env = pure none := by rfl)
    (h1 : (assignEach [.Subscript o i opos] X.env).map (·.2) = [assign (.Subscript o i opos) X.env] := by rfl)
    (ha : ∀ v, assign (.Subscript o i opos) X.env v = (do
      let ov ← holding [v] (eval o X.env)
      let iv ← holding [v, ov] (eval i X.env)
      standAt opos
      holding [v, ov, iv] (setItem ov iv v)
      release [v, ov, iv] []) := by intro _; rfl) : SS X w (.Assign [.Subscript o i opos] e pos) (sAsgX fe fo fi) :=
  PS.imp (ps_asg he (pg_sub ho hi (set_x hu) ha) hs hw h1) fun D σ H ⟨B, L, ρ, S, env, A, g⟩ =>
    tE_mono (tE_bindS3 A g) fun x H1 h => tE_mono h fun y H2 h => tE_mono h fun z H3 ⟨B, L, ρ, S, d, d', d'', A, r, r', r'', g⟩ => by
      cases hu : setX d' d'' d S with
      | none => rw [hu] at g; exact g.elim
      | some S' =>
        rw [hu] at g
        exact setX_ok A.rh r' r'' r hu fun H' p R => g σ ρ H' p R (A.re.mono p)
end
end Sf
end

section
set_option Elab.async false
set_option maxRecDepth 100000
set_option linter.all false
/-! Sd5: a dict is locked while its keys are walked. -/
namespace Sf
open PySem PySem.Spec PyProof.Rows L2 RZ
theorem RO.reL {G : Pg} {B L L' ρ : List Addr} {H : Hp} {a : Addr} {o : Ob} (k : a ∈ L → a ∈ L') (h : RO G B L ρ H a o) : RO G B L' ρ H a o := by
  cases o with
  | lst ds => exact h
  | dct lk kvs =>
    obtain ⟨ents, e, r⟩ := h
    refine ⟨ents, ?_, r⟩
    unfold LkAt at e ⊢
    split at e
    · rename_i hl; rw [if_pos hl]; exact ⟨k e.1, e.2⟩
    · rename_i hl; rw [if_neg hl]; exact e
  | dki lk kvs =>
    obtain ⟨ents, e, r⟩ := h
    refine ⟨ents, ?_, r⟩
    unfold LkAt at e ⊢
    split at e
    · rename_i hl; rw [if_pos hl]; exact ⟨k e.1, e.2⟩
    · rename_i hl; rw [if_neg hl]; exact e
  | ins fs => exact h
section
variable {G : Pg} {B L ρ ρ' : List Addr} {S S' : Sto} {H H' : Hp} {a : Addr} {n : Nat} {ob ob' : Ob} {od : Obj} {u : HO}
theorem nd_ne (R : RH G B L ρ H S) {m : Nat} {b : Addr} (h : ρ[n]? = some a) (h2 : ρ[m]? = some b) (hm : m ≠ n) : b ≠ a := by
  rintro rfl
  obtain ⟨l1, e1⟩ := List.getElem?_eq_some_iff.mp h
  obtain ⟨l2, e2⟩ := List.getElem?_eq_some_iff.mp h2
  exact hm ((List.getElem_inj R.nd).mp (e2.trans e1.symm))
theorem RH.lockX (R : RH G B L ρ H S) (h : ρ[n]? = some a) (hl : a ∉ L) (q : RO G B (a :: L) ρ (upd H a (.frz od u)) a ob') : RH G B (a :: L) ρ (upd H a (.frz od u)) (S.set n ob') where
  len := by simp [R.len]
  nd := R.nd
  dj := R.dj
  avo := fun b hb => let ⟨w, e⟩ := R.avo b hb; ⟨w, by rw [upd_ne (by rintro rfl; exact R.dj _ (List.mem_of_getElem? h) hb)]; exact e⟩
  lk := fun b hb => by
    by_cases e : b = a
    · subst e; exact ⟨_, _, upd_same⟩
    · obtain ⟨o, w, q⟩ := R.lk b ((List.mem_cons.mp hb).resolve_left e)
      exact ⟨o, w, by rw [upd_ne e]; exact q⟩
  ob := fun m b o h1 h2 => by
    by_cases hm : m = n
    · subst hm
      rw [h] at h1; cases h1
      have hn : m < S.length := by rw [← R.len]; exact (List.getElem?_eq_some_iff.mp h).1
      rw [List.getElem?_set_self hn] at h2; cases h2
      exact q
    · rw [List.getElem?_set_ne (Ne.symm hm)] at h2
      have hne := nd_ne R h h1 hm
      exact ((R.ob m b o h1 h2).mono (Post.wr h hl) (upd_ne hne)).reL (List.mem_cons_of_mem _)
theorem RH.unlockX (R : RH G B (a :: L) ρ H S) (h : ρ[n]? = some a) (hl : a ∉ L) (q : RO G B L ρ (upd H a u) a ob) : RH G B L ρ (upd H a u) (S.set n ob) where
  len := by simp [R.len]
  nd := R.nd
  dj := R.dj
  avo := fun b hb => let ⟨w, e⟩ := R.avo b hb; ⟨w, by rw [upd_ne (by rintro rfl; exact R.dj _ (List.mem_of_getElem? h) hb)]; exact e⟩
  lk := fun b hb => by
    obtain ⟨o, w, q⟩ := R.lk b (List.mem_cons_of_mem _ hb)
    exact ⟨o, w, by rw [upd_ne (by rintro rfl; exact hl hb)]; exact q⟩
  ob := fun m b o h1 h2 => by
    by_cases hm : m = n
    · subst hm
      rw [h] at h1; cases h1
      have hn : m < S.length := by rw [← R.len]; exact (List.getElem?_eq_some_iff.mp h).1
      rw [List.getElem?_set_self hn] at h2; cases h2
      exact q
    · rw [List.getElem?_set_ne (Ne.symm hm)] at h2
      have hne := nd_ne R h h1 hm
      exact ((R.ob m b o h1 h2).reL (L' := L) (fun z => (List.mem_cons.mp z).resolve_left hne)).mono (Post.wr h hl) (upd_ne hne)
/-- behind the lock: as if nothing had been locked -/
theorem post_unlock (h : ρ[n]? = some a) (hl : a ∉ L) (p : Post (a :: L) ρ (upd H a (.frz od u)) ρ' H') : H' a = some (.frz od u) ∧ Post L ρ H ρ' (upd H' a u) := by
  have ha := List.mem_of_getElem? h
  refine ⟨p.ext a _ (.inr List.mem_cons_self) upd_same, fun b w hb e => ?_, p.pre, fun b hb => ?_⟩
  · have hne : b ≠ a := by rintro rfl; exact hb.elim (fun z => z ha) hl
    rw [upd_ne hne]
    exact p.ext b w (hb.imp id (List.mem_cons_of_mem _)) (by rw [upd_ne hne]; exact e)
  · rcases p.new b hb with z | z
    · exact .inl z
    · by_cases e : b = a
      · subst e; exact .inl ha
      · rw [upd_ne e] at z; exact .inr z
end
def lkO : Ob → Option Ob
  | .dct false kvs => some (.dct true kvs)
  | .dki false kvs => some (.dki true kvs)
  | _ => none
def unSR (n : Nat) (ob : Ob) : SR → SR
  | .nx e S => .nx e (S.set n ob)
  | .bk e S => .bk e (S.set n ob)
  | .ct e S => .ct e (S.set n ob)
  | .rt d S => .rt d (S.set n ob)
  | _ => .bad
def unO {α : Type} (n : Nat) (ob : Ob) : Out α → Out α
  | .ok d S => .ok d (S.set n ob)
  | _ => .bad
def sLock (i : Nat) (f : FS) : FS := fun env S => match env[i]? with
  | some (.loc n) => (match S[n]? with
    | some ob => (match lkO ob with
      | some ob' => unSR n ob (f env (S.set n ob'))
      | none => .bad)
    | none => .bad)
  | _ => .bad
def fLock (i : Nat) (f : FE) : FE := fun env S => match env[i]? with
  | some (.loc n) => (match S[n]? with
    | some ob => (match lkO ob with
      | some ob' => unO n ob (f env (S.set n ob'))
      | none => .bad)
    | none => .bad)
  | _ => .bad
/-- what is needed to lock -/
theorem lock_at {G : Pg} {B L ρ : List Addr} {S : Sto} {H : Hp} {n : Nat} {a : Addr} {ob ob' : Ob} (R : RH G B L ρ H S) (h : ρ[n]? = some a) (q : S[n]? = some ob) (e : lkO ob = some ob') :
    a ∉ L ∧ ∃ u, H a = some u ∧ Mut (some u) ∧ (∀ od, RH G B (a :: L) ρ (upd H a (.frz od u)) (S.set n ob')) ∧ ∀ (ρ' : List Addr) (H' : Hp) (S' : Sto), ρ'[n]? = some a → Post L ρ H ρ' (upd H' a u) → RH G B (a :: L) ρ' H' S' → RH G B L ρ' (upd H' a u) (S'.set n ob) := by
  have ro := R.ob n a ob h q
  cases ob with
  | dct lk kvs =>
    cases lk with
    | true => cases e
    | false =>
      cases e
      obtain ⟨ents, h1, h2⟩ := ro
      have h1 : H a = some (dx G.P G.w a ents) := h1
      have hl : a ∉ L := R.notL h1 fun _ _ z => nomatch z
      refine ⟨hl, _, h1, trivial, fun od => R.lockX h hl ⟨ents, ?_, RKs.mono (Post.wr (L := L) h hl) h2⟩, fun ρ' H' S' h' p R' => R'.unlockX h' hl ⟨ents, ?_, RKs.mono p h2⟩⟩
      · unfold LkAt; rw [if_pos rfl]; exact ⟨List.mem_cons_self, od, upd_same⟩
      · exact upd_same
  | dki lk kvs =>
    cases lk with
    | true => cases e
    | false =>
      cases e
      obtain ⟨ents, h1, h2⟩ := ro
      have h1 : H a = some (.dK ents) := h1
      have hl : a ∉ L := R.notL h1 fun _ _ z => nomatch z
      refine ⟨hl, _, h1, trivial, fun od => R.lockX h hl ⟨ents, ?_, RIs.mono (Post.wr (L := L) h hl) h2⟩, fun ρ' H' S' h' p R' => R'.unlockX h' hl ⟨ents, ?_, RIs.mono p h2⟩⟩
      · unfold LkAt; rw [if_pos rfl]; exact ⟨List.mem_cons_self, od, upd_same⟩
      · exact upd_same
  | _ => cases e
section
variable {X : Cx} {w : Wx} {st : Stmt} {e : Expr} {f : FS} {fe : FE}
theorem ss_lock {i : Nat} (h : SS X w st f) : SS X w st (sLock i f) := PS.imp (ps_lock h) fun D σ H ⟨B, L, ρ, S, env, A, g⟩ => by
  unfold sLock at g
  cases h1 : env[i]? with
  | none => rw [h1] at g; exact g.elim
  | some d =>
  rw [h1] at g
  cases d with
  | loc n =>
    simp only at g
    rcases A.re.at' i _ h1 with z | ⟨v, _, rv⟩
    · cases z
    cases rv with
    | @loc _ a hn =>
    cases h2 : S[n]? with
    | none => rw [h2] at g; exact g.elim
    | some ob =>
    rw [h2] at g
    simp only at g
    cases h3 : lkO ob with
    | none => rw [h3] at g; exact g.elim
    | some ob' =>
    rw [h3] at g
    simp only at g
    obtain ⟨hl, u, hu, mu, lk, un⟩ := lock_at A.rh hn h2 h3
    refine ⟨a, u, hu, mu, fun od => ⟨B, a :: L, ρ, S.set n ob', env, ⟨lk od, A.re.mono (Post.wr (L := L) hn hl)⟩, ?_⟩⟩
    revert g
    have key : ∀ (ρ' : List Addr) (H' : Hp) (S' : Sto), Post (a :: L) ρ (upd H a (.frz od u)) ρ' H' → RH (pg X) B (a :: L) ρ' H' S' → H' a = some (.frz od u) ∧ Post L ρ H ρ' (upd H' a u) ∧ RH (pg X) B L ρ' (upd H' a u) (S'.set n ob) ∧ Post L ρ' H' ρ' (upd H' a u) := fun ρ' H' S' p R => by
      obtain ⟨p1, p2⟩ := post_unlock hn hl p
      exact ⟨p1, p2, un ρ' H' S' (p.at hn) p2 R, Post.wr (p.at hn) hl⟩
    cases f env (S.set n ob') with
    | nx e S' => exact fun g σ' ρ' H' p R re => let ⟨k1, k2, k3, k4⟩ := key ρ' H' S' p R; ⟨k1, g σ' ρ' _ k2 k3 (re.mono k4)⟩
    | bk e S' => exact fun g σ' ρ' H' p R re => let ⟨k1, k2, k3, k4⟩ := key ρ' H' S' p R; ⟨k1, g σ' ρ' _ k2 k3 (re.mono k4)⟩
    | ct e S' => exact fun g σ' ρ' H' p R re => let ⟨k1, k2, k3, k4⟩ := key ρ' H' S' p R; ⟨k1, g σ' ρ' _ k2 k3 (re.mono k4)⟩
    | rt d S' => exact fun g v ρ' H' p R rv => let ⟨k1, k2, k3, k4⟩ := key ρ' H' S' p R; ⟨k1, g v ρ' _ k2 k3 (rv.mono k4)⟩
    | xc c S' => exact fun g => g.elim
    | bad => exact fun g => g.elim
  | _ => exact g.elim
theorem se_lock {i : Nat} (h : SE X w e fe) : SE X w e (fLock i fe) := PE.imp (pe_lock h) fun σ H Q ⟨B, L, ρ, S, env, A, g⟩ => by
  unfold fLock at g
  cases h1 : env[i]? with
  | none => rw [h1] at g; exact g.elim
  | some d =>
  rw [h1] at g
  cases d with
  | loc n =>
    simp only at g
    rcases A.re.at' i _ h1 with z | ⟨v, _, rv⟩
    · cases z
    cases rv with
    | @loc _ a hn =>
    cases h2 : S[n]? with
    | none => rw [h2] at g; exact g.elim
    | some ob =>
    rw [h2] at g
    simp only at g
    cases h3 : lkO ob with
    | none => rw [h3] at g; exact g.elim
    | some ob' =>
    rw [h3] at g
    simp only at g
    obtain ⟨hl, u, hu, mu, lk, un⟩ := lock_at A.rh hn h2 h3
    refine ⟨a, u, hu, mu, fun od => ⟨B, a :: L, ρ, S.set n ob', env, ⟨lk od, A.re.mono (Post.wr (L := L) hn hl)⟩, ?_⟩⟩
    revert g
    have key : ∀ (ρ' : List Addr) (H' : Hp) (S' : Sto), Post (a :: L) ρ (upd H a (.frz od u)) ρ' H' → RH (pg X) B (a :: L) ρ' H' S' → H' a = some (.frz od u) ∧ Post L ρ H ρ' (upd H' a u) ∧ RH (pg X) B L ρ' (upd H' a u) (S'.set n ob) ∧ Post L ρ' H' ρ' (upd H' a u) := fun ρ' H' S' p R => by
      obtain ⟨p1, p2⟩ := post_unlock hn hl p
      exact ⟨p1, p2, un ρ' H' S' (p.at hn) p2 R, Post.wr (p.at hn) hl⟩
    cases fe env (S.set n ob') with
    | ok d S' => exact fun g v ρ' H' p R rv => let ⟨k1, k2, k3, k4⟩ := key ρ' H' S' p R; ⟨k1, g v ρ' _ k2 k3 (rv.mono k4)⟩
    | exc c S' => exact fun g => g.elim
    | bad => exact fun g => g.elim
  | _ => exact g.elim
end
end Sf
end

section
set_option Elab.async false
set_option maxRecDepth 100000
set_option linter.all false
/-! Sd6: for k in d; d.get(k, x); d != {}. -/
namespace Sf
open PySem PySem.Spec PyProof.Rows L2 RZ
theorem paired_get' {α β : Type} {G : α → β → Prop} {l₁ : List α} {l₂ : List β} (h : Paired G l₁ l₂) {i : Nat} {a : α} (e : l₁[i]? = some a) : ∃ b, l₂[i]? = some b ∧ G a b := paired_get h e
theorem frzX {X : Cx} {pins : List (Addr × Obj)} {σ : L2.St} {H : Hp} {s : Shared} {d : Addr} {o : Obj} {ents : List Ent} (I : Inv X pins σ H s) (h : H d = some (.frz o (dx X.prog X.w d ents))) :
    (d == sysModules) = false ∧ s.heap.get? d = some o ∧ o.ExactDict ∧ ∃ (es : Array DictEntry) (ep : Nat), o.data = .dict es ep ∧ es.size = ents.length ∧
      ∀ (i : Nat) (e : Ent), ents[i]? = some e → ∃ en : DictEntry, es[i]? = some en ∧ en.key = .ref e.2.1 := by
  obtain ⟨hd, ⟨z, hs, nd, xs, pr, o', es, ep, ho, hx, hdt, he⟩, _⟩ := I.hok d _ h
  rw [hd] at ho
  cases ho
  refine ⟨hs, hd, hx, es, ep, hdt, ?_, fun i e hi => ?_⟩
  · have l1 : es.size = xs.length := size_of_entries he
    have l2 : ents.length = xs.length := Paired.length pr
    omega
  · obtain ⟨b, hb, e1, e2, _⟩ := paired_get pr hi
    have q := entry_at he i
    rw [hb] at q
    exact ⟨_, q, by rw [e2]; rfl⟩
/-- the keys of the locked dict at d -/
def ItX (P : Program) (w : World) (d : Addr) (o : Obj) (ents : List Ent) : It :=
  ⟨fun i H => H d = some (.frz o (dx P w d ents)) ∧ i < ents.length, fun i H x H' => H' = H ∧ ∃ e, ents[i]? = some e ∧ x = .ref e.2.1, fun i H => H d = some (.frz o (dx P w d ents)) ∧ ents.length ≤ i⟩
theorem turn_keysX {P : Program} {w : World} {K : PySem.W.Frag} {tg : Expr} {d : Addr} {o : Obj} {es : Array DictEntry} {ep : Nat} {ents : List Ent} (it : Addr) (hod : o.data = .dict es ep) : Turn P w K tg (ItX P w d o ents) [it] it (fun i h => h.IsKeyIter it d i ents.length ep) where
  mem := by simp
  obj := fun i h st b hb => by
    have e : b = it := by simpa using hb
    subst e
    obtain ⟨oi, e, c, dd⟩ := st
    exact ⟨oi, e, fun v z => by rw [dd] at z; cases z⟩
  keep := fun i h h' st k => st.at fun oi e => k it (by simp) oi e
  item := by
    intro X hP hw hK hc i pins s σ H E I hf st hg
    subst hP hw hK
    obtain ⟨hd, hi⟩ := hg
    obtain ⟨f0, f1, f2, f3, f4, f5⟩ := hf it (by simp)
    obtain ⟨hs, hgd, hx, es', ep', hdt, hsz, ent⟩ := frzX I hd
    obtain ⟨rfl, rfl⟩ := dict_ep hod hdt
    obtain ⟨e, he⟩ : ∃ p, ents[i]? = some p := ⟨ents[i], List.getElem?_eq_getElem hi⟩
    obtain ⟨en, hen, hkey⟩ := ent i e he
    refine next_key_item st hgd hdt hsz hen fun h' st' sb => ?_
    have I1 : Inv X pins σ H { s with heap := h' } := I.turned (t' := s.toks) (fun b ob hb e => (sb.2 b hb).trans e) f0 f1 f3 f4 f5
    obtain ⟨oi, e', c, dd⟩ := id st'
    exact ⟨en.key, rfl, go_of (s := { s with heap := h' }) e' c dd (by decide) ⟨.ref e.2.1, H, I1, hkey, ⟨rfl, e, he, rfl⟩, st', fun b hb => (hf b hb).1⟩⟩
  done := by
    intro X hP hw hK hc i pins s σ H E I hf st hg
    subst hP hw hK
    obtain ⟨hd, hi⟩ := hg
    obtain ⟨f0, f1, f2, f3, f4, f5⟩ := hf it (by simp)
    obtain ⟨hs, hgd, hx, es', ep', hdt, hsz, ent⟩ := frzX I hd
    obtain ⟨rfl, rfl⟩ := dict_ep hod hdt
    exact next_key_end (I.ok.hd hc) st hgd hdt hsz hi fun h' eb => ⟨rfl, I.turned (t' := s.toks) (fun b ob hb e => eb b ob hb e) f0 f1 f3 f4 f5⟩
  self := fun A i s Q E st h => by
    refine wpAny_pyIter_slot st.typeIs F.slot_dict_keyiterator_iter (wpAny_call_entry F.slot_dict_keyiterator_iter st.typeIs F.entry_dict_keyiterator_iter ?_ (F.args_dict_keyiterator_iter_1 _))
    show wpAny _ _ (ret (.ref it)) _ _ s
    exact wpAny_pure ⟨_, rfl, "dict_keyiterator", _, st.typeIs, F.slot_dict_keyiterator_next.lookup, h⟩
def iKeysX (P : Program) (w : World) (td : TE) : TI := fun σ H R => td σ H fun x H1 => ∃ d o, x = .ref d ∧ ((∃ kvs, H1 d = some (.frz o (.dK kvs)) ∧ R (Itk d o kvs) H1) ∨ ∃ ents, H1 d = some (.frz o (dx P w d ents)) ∧ R (ItX P w d o ents) H1)
theorem pi_keysX {X : Cx} {tg e : Expr} {td : TE} (he : PE X e td) : PI X tg e (iKeysX X.prog X.w td) := by
  refine ⟨fun pins s σ H R I h => ?_⟩
  refine thn (he.run pins s σ H _ I h) fun u s1 ⟨x, H1, I1, rx, d, o, ex, q⟩ => ?_
  subst ex
  obtain rfl : u = Value.ref d := rx
  rcases q with ⟨kvs, hd, q⟩ | ⟨ents, hd, q⟩
  · obtain ⟨hs, hgd, hx, es, ep, vs, hdt, hsz, kv, hm⟩ := I1.frzK hd
    refine iter_keys hs hgd hx hdt (pi_one (tk := s1.toks) I1 _ (turn_keys _ hdt) ⟨_, Heap.get?_push_size _ rfl, rfl, ?_⟩ q)
    rw [hsz] <;> rfl
  · obtain ⟨hs, hgd, hx, es, ep, hdt, hsz, ent⟩ := frzX I1 hd
    refine iter_keys hs hgd hx hdt (pi_one (tk := s1.toks) I1 _ (turn_keysX _ hdt) ⟨_, Heap.get?_push_size _ rfl, rfl, ?_⟩ q)
    rw [hsz] <;> rfl
def iKeysD (fe : FE) : FA := fun env S => (fe env S).bind fun o S1 => match o with
  | .loc n => (match S1[n]? with
    | some (.dct true kvs) => .ok (kvs.map (·.1)) S1
    | some (.dki true kvs) => .ok (kvs.map fun p => .int p.1) S1
    | _ => .bad)
  | _ => .bad
theorem rks_get {G : Pg} {B ρ : List Addr} {H : Hp} : ∀ {kvs : List (D × D)} {ents : List Ent} {i : Nat} {d : D} {e : Ent}, RKs G B ρ H kvs ents → (kvs.map (·.1))[i]? = some d → ents[i]? = some e → RV G.K B ρ H d (.ref e.2.1)
  | _, _, i, _, _, .nil, h, _ => by simp at h
  | _, _, 0, _, _, .cons h1 h2 h3 h4 r, h, h' => by simp at h h'; subst h; subst h'; exact h2
  | _, _, i + 1, _, _, .cons h1 h2 h3 h4 r, h, h' => rks_get (i := i) r (by simpa using h) (by simpa using h')
theorem ris_get {G : Pg} {B ρ : List Addr} {H : Hp} : ∀ {kvs : List (Int × D)} {ents : List (L2.Key × V)} {i : Nat} {d : D} {k : L2.Key} {v : V}, RIs G B ρ H kvs ents → (kvs.map fun p => D.int p.1)[i]? = some d → ents[i]? = some (k, v) → RV G.K B ρ H d (kV k)
  | _, _, i, _, _, _, .nil, h, _ => by simp at h
  | _, _, 0, _, _, _, .cons h4 r, h, h' => by
    simp at h h'; subst h; obtain ⟨rfl, rfl⟩ := h'; exact .int _
  | _, _, i + 1, _, _, _, .cons h4 r, h, h' => ris_get (i := i) r (by simpa using h) (by simpa using h')
theorem RKs.addB' {G : Pg} {B ρ : List Addr} {H : Hp} {p : Addr} {o : HO} (hn : H p = none) : ∀ {kvs : List (D × D)} {ents : List Ent}, RKs G B ρ H kvs ents → RKs G (p :: B) ρ (upd H p o) kvs ents
  | _, _, .nil => .nil
  | _, _, .cons h1 h2 h3 h4 r => .cons h1 (h2.addB hn) h3 (h4.addB hn) (RKs.addB' hn r)
theorem RKs.av' {G : Pg} {B ρ : List Addr} {H : Hp} {p : Addr} {o : HO} (hp : p ∈ B) : ∀ {kvs : List (D × D)} {ents : List Ent}, RKs G B ρ H kvs ents → RKs G B ρ (upd H p o) kvs ents
  | _, _, .nil => .nil
  | _, _, .cons h1 h2 h3 h4 r => .cons h1 (h2.av hp) h3 (h4.av hp) (RKs.av' hp r)
theorem RIs.addB' {G : Pg} {B ρ : List Addr} {H : Hp} {p : Addr} {o : HO} (hn : H p = none) : ∀ {kvs : List (Int × D)} {ents : List (L2.Key × V)}, RIs G B ρ H kvs ents → RIs G (p :: B) ρ (upd H p o) kvs ents
  | _, _, .nil => .nil
  | _, _, .cons h4 r => .cons (h4.addB hn) (RIs.addB' hn r)
theorem RIs.av' {G : Pg} {B ρ : List Addr} {H : Hp} {p : Addr} {o : HO} (hp : p ∈ B) : ∀ {kvs : List (Int × D)} {ents : List (L2.Key × V)}, RIs G B ρ H kvs ents → RIs G B ρ (upd H p o) kvs ents
  | _, _, .nil => .nil
  | _, _, .cons h4 r => .cons (h4.av hp) (RIs.av' hp r)
section
variable {G : Pg} {L : List Addr}
theorem walk_keysX {d : Addr} {o : Obj} {ents : List Ent} {kvs : List (D × D)} (hd : d ∈ L) : WalkOk G L (ItX G.P G.w d o ents) (kvs.map (·.1)) (fun B ρ H => d ∉ B ∧ H d = some (.frz o (dx G.P G.w d ents)) ∧ RKs G B ρ H kvs ents) where
  mono := fun B ρ ρ' H H' p ⟨h0, h1, h2⟩ => ⟨h0, p.ext d _ (.inr hd) h1, h2.mono p⟩
  addB := fun B ρ H p u hn ⟨h0, h1, h2⟩ => ⟨fun z => (List.mem_cons.mp z).elim (fun z => by rw [z, hn] at h1; cases h1) h0, by rw [upd_ne (ne_of_none h1 hn)]; exact h1, RKs.addB' hn h2⟩
  av := fun B ρ H p u hp ⟨h0, h1, h2⟩ => ⟨h0, by rw [upd_ne (by rintro rfl; exact h0 hp)]; exact h1, RKs.av' hp h2⟩
  stop := fun B ρ H ⟨h0, h1, h2⟩ => ⟨h1, by rw [List.length_map, rks_len h2]; exact Nat.le_refl _⟩
  go := fun B ρ H i ⟨h0, h1, h2⟩ hi => ⟨h1, by rw [← rks_len h2]; simpa using hi⟩
  yld := fun B ρ S H H' i k x ⟨h0, h1, h2⟩ R e y => by
    obtain ⟨rfl, en, he, rfl⟩ := y
    exact ⟨Post.refl, R, rks_get h2 e he⟩
theorem walk_keysI {d : Addr} {o : Obj} {ents : List (L2.Key × V)} {kvs : List (Int × D)} (hd : d ∈ L) : WalkOk G L (Itk d o ents) (kvs.map fun p => D.int p.1) (fun B ρ H => d ∉ B ∧ H d = some (.frz o (.dK ents)) ∧ RIs G B ρ H kvs ents) where
  mono := fun B ρ ρ' H H' p ⟨h0, h1, h2⟩ => ⟨h0, p.ext d _ (.inr hd) h1, h2.mono p⟩
  addB := fun B ρ H p u hn ⟨h0, h1, h2⟩ => ⟨fun z => (List.mem_cons.mp z).elim (fun z => by rw [z, hn] at h1; cases h1) h0, by rw [upd_ne (ne_of_none h1 hn)]; exact h1, RIs.addB' hn h2⟩
  av := fun B ρ H p u hp ⟨h0, h1, h2⟩ => ⟨h0, by rw [upd_ne (by rintro rfl; exact h0 hp)]; exact h1, RIs.av' hp h2⟩
  stop := fun B ρ H ⟨h0, h1, h2⟩ => ⟨h1, by rw [List.length_map, ris_len h2]; exact Nat.le_refl _⟩
  go := fun B ρ H i ⟨h0, h1, h2⟩ hi => ⟨h1, by rw [← ris_len h2]; simpa using hi⟩
  yld := fun B ρ S H H' i k x ⟨h0, h1, h2⟩ R e y => by
    obtain ⟨rfl, kk, v, he, rfl⟩ := y
    exact ⟨Post.refl, R, ris_get h2 e he⟩
end
section
variable {X : Cx} {w : Wx} {tg e : Expr} {fe : FE}
theorem si_keysD (he : SE X w e fe) : SI X w tg e (iKeysD fe) := PI.imp (pi_keysX he) fun σ H R ⟨B, L, ρ, S, env, A, g⟩ => by
  refine ⟨B, L, ρ, S, env, A, ?_⟩
  revert g
  unfold iKeysD
  cases fe env S with
  | exc c S' => exact fun g => g
  | bad => exact fun g => g
  | ok d S' =>
    intro g v ρ' H' p RR r
    have g' := GO.step g p
    revert g'
    cases r with
    | @loc n a h =>
      simp only [Out.bind]
      cases q : S'[n]? with
      | none => exact fun g => g.elim
      | some ob =>
        have ro := RR.ob n a ob h q
        have hb : a ∉ B := RR.dj a (List.mem_of_getElem? h)
        cases ob with
        | dct lk kvs =>
          cases lk with
          | false => exact fun g => g.elim
          | true =>
            obtain ⟨ents, h1, h2⟩ := ro
            unfold LkAt at h1
            rw [if_pos rfl] at h1
            obtain ⟨hl, od, h1⟩ := h1
            exact fun g => ⟨a, od, rfl, .inr ⟨ents, h1, g _ ρ' H' Post.refl RR ⟨_, walk_keysX hl, hb, h1, h2⟩⟩⟩
        | dki lk kvs =>
          cases lk with
          | false => exact fun g => g.elim
          | true =>
            obtain ⟨ents, h1, h2⟩ := ro
            unfold LkAt at h1
            rw [if_pos rfl] at h1
            obtain ⟨hl, od, h1⟩ := h1
            exact fun g => ⟨a, od, rfl, .inl ⟨ents, h1, g _ ρ' H' Post.refl RR ⟨_, walk_keysI hl, hb, h1, h2⟩⟩⟩
        | _ => exact fun g => g.elim
    | _ => exact fun g => g.elim
end
/-! d.get(k, x) -/
def isDct (o : D) (S : Sto) : Bool := match o with
  | .loc n => match S[n]? with
    | some (.dct _ _) => true
    | some (.dki _ _) => true
    | _ => false
  | _ => false
def fGetX (fo fk fd : FE) : FE := fun env S => (fo env S).bind fun o S1 => bif isDct o S1 then (fk env S1).bind fun k S2 => (fd env S2).bind fun d S3 => (match findD o k S3 with
  | some r => .ok (r.getD d) S3
  | none => .bad) else .bad
def IsX (P : Program) (w : World) (H : Hp) (a : Addr) : Prop := (∃ kvs, Rd H a (.dK kvs)) ∨ ∃ ents, Rd H a (dx P w a ents)
theorem isX_at {X : Cx} {pins : List (Addr × Obj)} {σ : L2.St} {H : Hp} {s : Shared} {a : Addr} (I : Inv X pins σ H s) (d : IsX X.prog X.w H a) :
    s.TypeIs (.ref a) "dict" ∧ (∀ b, Value.ref a = .ref b → ∃ ob, s.heap.get? b = some ob ∧ ob.dict = none) := by
  rcases d with h | ⟨ents, e⟩
  · obtain ⟨h1, h2, _⟩ := isD_at I (.inl h); exact ⟨h1, h2⟩
  · obtain ⟨h1, h2, _⟩ := xd_typeIs I e; exact ⟨h1, h2⟩
def tXGet2 (P : Program) (w : World) (td ty tx : TE) : TE := fun σ H Q => td σ H fun x H1 => ∃ a, x = .ref a ∧ IsX P w H1 a ∧ ty σ H1 fun y H2 => tx σ H2 fun z H3 => ∃ o, XDG P w H3 a y o ∧ Q (o.getD z) H3
section
variable {X : Cx} {w : Wx} {o e f : Expr} {apos cpos : Pos} {td ty tx : TE} {fo fk fd : FE}
theorem pe_xget2 (hu : X.A.units + 9 < cLine) (ho : PE X o td) (he : PE X e ty) (hf : PE X f tx) (m : M2 X o "get" apos e f cpos) : PE X (.Call (.Attribute o "get" apos) [e, f] [] cpos) (tXGet2 X.prog X.w td ty tx) := by
  refine ⟨fun pins s σ H Q I h => ?_⟩
  refine wpAny_Call_method m.base m.few m.line PySem.F.plainAttrs_dict PySem.F.slot_dict_get PySem.F.type_dict_get (thn (ho.run pins s σ H _ I h) fun u s1 ⟨x, H1, I1, rx, a, ex, d, q1⟩ => ?_)
  subst ex
  obtain rfl : u = Value.ref a := rx
  obtain ⟨t1, t2⟩ := isX_at I1 d
  refine ⟨t1, t2, ?_⟩
  rw [m.trees]
  refine Calls.callWith_builtin rfl (Calls.evalArgs_plain (Calls.spliced_cons (thn (he.run pins s1 σ H1 _ I1 q1) fun iv s2 ⟨y, H2, I2, ry, q2⟩ =>
    Calls.spliced_cons (thn (hf.run pins s2 σ H2 _ I2 q2) fun fv s3 ⟨z, H3, I3, rz, ov, g, q3⟩ => Calls.spliced_nil ?_))))
  exact g.elim (fun g => xd_get2 hu I3 g ry rz fun w' s4 I4 rw' => ⟨_, H3, I4, rw', q3⟩) fun g => d_get2 (by omega) I3 g ry rz fun w' s4 I4 rw' => ⟨_, H3, I4, rw', q3⟩
theorem se_getX (hu : X.A.units + 9 < cLine) (ho : SE X w o fo) (he : SE X w e fk) (hf : SE X w f fd) (m : M2 X o "get" apos e f cpos) : SE X w (.Call (.Attribute o "get" apos) [e, f] [] cpos) (fGetX fo fk fd) :=
  PE.imp (pe_xget2 hu ho he hf m) fun σ H Q ⟨B, L, ρ, S, env, A, g⟩ => by
    refine ⟨B, L, ρ, S, env, A, ?_⟩
    revert g
    unfold fGetX
    cases fo env S with
    | exc c S' => exact fun g => g
    | bad => exact fun g => g
    | ok d S' =>
      intro g v ρ' H' p R r
      have g' := GO.step g p
      revert g'
      simp only [Out.bind]
      cases hd : isDct d S' with
      | false => exact fun g => g.elim
      | true =>
      intro g'
      have gg : GO (pg X) w.W w.xm B L ρ' H' σ (rD (pg X) B) ((fk env S').bind fun k S2 => (fd env S2).bind fun d' S3 => (match findD d k S3 with
        | some r => Out.ok (r.getD d') S3
        | none => .bad)) Q := g'
      cases r with
      | @loc n a h =>
        refine ⟨a, rfl, ?_, ?_⟩
        · unfold isDct at hd
          simp only at hd
          cases q : S'[n]? with
          | none => rw [q] at hd; cases hd
          | some ob =>
            rw [q] at hd
            have ro := R.ob n a ob h q
            cases ob with
            | dct lk kvs => obtain ⟨ents, h1, h2⟩ := ro; exact .inr ⟨ents, lk_rd h1⟩
            | dki lk kvs => obtain ⟨ents, h1, h2⟩ := ro; exact .inl ⟨ents, lk_rd h1⟩
            | _ => cases hd
        · refine ⟨B, L, ρ', S', env, A.step p R, ?_⟩
          revert gg
          cases fk env S' with
          | exc c S2 => exact fun g => g
          | bad => exact fun g => g
          | ok k S2 =>
            intro gg y ρ2 H2 p2 R2 r2
            have g2 : GO (pg X) w.W w.xm B L ρ2 H2 σ (rD (pg X) B) ((fd env S2).bind fun d' S3 => (match findD (.loc n) k S3 with
              | some r => Out.ok (r.getD d') S3
              | none => .bad)) Q := GO.step gg p2
            refine ⟨B, L, ρ2, S2, env, (A.step p R).step p2 R2, ?_⟩
            revert g2
            cases fd env S2 with
            | exc c S3 => exact fun g => g
            | bad => exact fun g => g
            | ok d' S3 =>
              intro g2 z ρ3 H3 p3 R3 r3
              have g3 : GO (pg X) w.W w.xm B L ρ3 H3 σ (rD (pg X) B) (match findD (.loc n) k S3 with
                | some r => Out.ok (r.getD d') S3
                | none => .bad) Q := GO.step g2 p3
              cases hf : findD (.loc n) k S3 with
              | none => rw [hf] at g3; exact g3.elim
              | some r =>
                rw [hf] at g3
                obtain ⟨a2, v2, e2, gx, kk⟩ := findD_ok R3 (RV.loc (p3.at (p2.at h))) (r2.mono p3) hf
                cases e2
                refine ⟨v2, gx, ?_⟩
                refine g3 _ ρ3 H3 Post.refl R3 ?_
                rcases kk with ⟨k1, k2⟩ | ⟨d2, u, k1, k2, k3⟩
                · rw [k1, k2]; exact r3
                · rw [k1, k2]; exact k3
      | _ => cases hd
end
end Sf
end

section
set_option Elab.async false
set_option maxRecDepth 100000
set_option linter.all false
/-! Sd7: d != {}. -/
namespace Sf
open PySem PySem.Spec PyProof.Rows L2
section
variable {prog : Program} {w : World} {A : Around} {E : Value → Shared → Prop} {s : Shared}
theorem samePairs0 {nm : String} {a b : Addr} {oa ob : Obj} {es : Array DictEntry} {ep ep' : Nat} {Q : Bool → Shared → Prop} (ha : (a == sysModules) = false) (hb : (b == sysModules) = false)
    (hoa : s.heap.get? a = some oa) (hda : oa.data = .dict es ep) (hob : s.heap.get? b = some ob) (hdb : ob.data = .dict #[] ep') (h : Q (es.size == 0) s) :
    wpAny (model prog w) A (Builtin.Dict.samePairs nm a b) Q E s := by
  unfold Builtin.Dict.samePairs Builtin.Dict.showsAll
  rw [if_neg (show ¬ (a == sysModules) = true by rw [ha]; exact Bool.false_ne_true), if_neg (show ¬ (b == sysModules) = true by rw [hb]; exact Bool.false_ne_true)]
  refine wpAny_bind (wpAny_pure (wpAny_bind (wpAny_pure ?_)))
  refine wpAny_bind (wpAny_dictEntries hoa hda ?_)
  dsimp only
  refine wpAny_bind (wpAny_dictEntries hob hdb ?_)
  by_cases hsz : es.size = 0
  case neg =>
    rw [if_pos (by simpa using hsz)]
    have hbf : (es.size == 0) = false := by simpa using hsz
    rw [hbf] at h
    exact wpAny_bind (wpAny_rule (wpAny_pure h))
  case pos =>
    have h' : Q true s := by simpa [hsz] using h
    rw [if_neg (by rw [hsz]; simp)]
    refine wpAny_bind (wpAny_dictEpoch hoa hda ?_)
    refine wpAny_bind ?_
    rw [Std.Legacy.Range.forIn_eq_forIn_range']
    simp only [Std.Legacy.Range.size, Nat.sub_zero, Nat.add_sub_cancel, Nat.div_one]
    rw [hsz]
    exact wpAny_pure (wpAny_pure h')
theorem ne_empty {a b : Addr} {oa ob : Obj} {es : Array DictEntry} {ep ep' : Nat} {Q : Value → Shared → Prop} (ha : (a == sysModules) = false) (hb : (b == sysModules) = false)
    (hoa : s.heap.get? a = some oa) (xa : oa.ExactDict) (hda : oa.data = .dict es ep) (hob : s.heap.get? b = some ob) (xb : ob.ExactDict) (hdb : ob.data = .dict #[] ep') (hu : A.units < cLine) (h : Q (.bool (!(es.size == 0))) s) :
    wpAny (model prog w) A (compareOp .NotEq (.ref a) (.ref b)) Q E s := by
  have da : s.TypeIs (.ref a) "dict" := ⟨oa, hoa, xa.1⟩
  have db : s.TypeIs (.ref b) "dict" := ⟨ob, hob, xb.1⟩
  refine wpAny_richCompare_same_room (op := .NotEq) da db PySem.F.slot_dict_ne (wpAny_call_entry PySem.F.slot_dict_ne da PySem.F.entry_dict_ne ?_ (PySem.F.args_dict_ne_2 _ _)) hu
  show wpAny _ _ (Builtin.Dict.dictSlotArgs "__ne__" ⟨[.ref a, .ref b], []⟩ >>= _) _ _ s
  refine wpAny_bind ?_
  unfold Builtin.Dict.dictSlotArgs
  refine wpAny_bind (wpAny_notOrdered_dict da ?_)
  show wpAny _ _ (pure (Value.ref a, Value.ref b)) _ _ s
  refine wpAny_pure ?_
  refine wpAny_bind (wpAny_isInstance (T := "dict") db PySem.F.sub_dict_dict ?_)
  simp only [Bool.not_true, Bool.false_eq_true, if_false]
  refine wpAny_bind (wpAny_pure (wpAny_bind (wpAny_pure ?_)))
  refine wpAny_bind (samePairs0 ha hb hoa hda hob hdb ?_)
  refine wpAny_pure ⟨_, rfl, ?_, ?_⟩
  · exact fun x => nomatch x
  · simpa using h
end
def rNeE (P : Program) (w : World) : R2 := fun x y H Q => ∃ a b ents, x = .ref a ∧ y = .ref b ∧ Rd H a (dx P w a ents) ∧ Rd H b (dx P w b []) ∧ Q (.bl (!(ents.length == 0))) H
theorem op_neE {X : Cx} (hu : X.A.units < cLine) : OpR X (compareOp .NotEq) (rNeE X.prog X.w) := by
  intro pins s σ H x y v u Q I rx ry h
  obtain ⟨a, b, ents, rfl, rfl, ea, eb, q⟩ := h
  cases (show v = Value.ref a from rx)
  cases (show u = Value.ref b from ry)
  obtain ⟨z, hs, nd, xs, r, o, es, ep, h1, h2, h3, h4⟩ := dx_rd I.hok ea
  obtain ⟨z', hs', nd', xs', r', o', es', ep', h1', h2', h3', h4'⟩ := dx_rd I.hok eb
  cases r'
  have e0 : es' = #[] := by
    have : es'.toList = [] := by rw [h4']; rfl
    exact Array.toList_eq_nil_iff.mp this
  subst e0
  refine ne_empty hs hs' h1 h2 h3 h1' h2' h3' hu ⟨.bl _, H, I, rfl, ?_⟩
  have l1 : es.size = xs.length := size_of_entries h4
  have l2 : ents.length = xs.length := Paired.length r
  rw [l1, ← l2]; exact q
def tDNewX (P : Program) (w : World) : TE := fun _ H Q => ∀ p, H p = none → Q (.ref p) (upd H p (dx P w p []))
def fNeE (fo : FE) : FE := fun env S => (fo env S).bind fun o S1 => match o with
  | .loc n => (match S1[n]? with
    | some (.dct _ kvs) => .ok (.bl (!(kvs.length == 0))) S1
    | _ => .bad)
  | _ => .bad
section
variable {X : Cx} {w : Wx} {a : Expr} {fa : FE} {p pos : Pos}
theorem pe_dnewX : PE X (.Dict [] [] p) (tDNewX X.prog X.w) := ⟨fun pins s σ H Q I h =>
  wpAny_Dict_empty ⟨.ref s.heap.objs.size, _, I.laid (a := s.heap.objs.size) (o := dx X.prog X.w s.heap.objs.size []) (t' := s.toks) (fun _ _ q => Heap.get?_push_of_some _ q) (Nat.le_refl _) (dx_empty s.heap I.big), rfl, h _ (I.hok.fresh (Nat.le_refl _))⟩⟩
theorem go_neE {σ : L2.St} {H : Hp} {Q : VK} (h : tE (pg X) w.W w.xm (fNeE fa) σ H Q) : tOp (rNeE X.prog X.w) (tE (pg X) w.W w.xm fa) (tDNewX X.prog X.w) σ H Q := by
  obtain ⟨B, L, ρ, S, env, A, g⟩ := h
  refine ⟨B, L, ρ, S, env, A, ?_⟩
  revert g
  unfold fNeE
  cases fa env S with
  | exc c S' => exact fun g => g
  | bad => exact fun g => g
  | ok d S' =>
    intro g v ρ' H' p R r
    have g' := GO.step g p
    revert g'
    cases r with
    | @loc n a h =>
      simp only [Out.bind]
      cases q : S'[n]? with
      | none => exact fun g => g.elim
      | some ob =>
        have ro := R.ob n a ob h q
        cases ob with
        | dct lk kvs =>
          obtain ⟨ents, h1, h2⟩ := ro
          intro g b hb
          have hne : a ≠ b := by
            obtain ⟨u, hu⟩ := R.there h
            exact ne_of_none hu hb
          refine ⟨a, b, ents, rfl, rfl, ?_, .inl upd_same, ?_⟩
          · rcases lk_rd h1 with z | ⟨o, z⟩
            · exact .inl (by rw [upd_ne hne]; exact z)
            · exact .inr ⟨o, by rw [upd_ne hne]; exact z⟩
          · rw [← rks_len h2]
            exact g _ ρ' _ (Post.newV hb) (R.newV hb) (.bl _)
        | _ => exact fun g => g.elim
    | _ => exact fun g => g.elim
theorem se_neE (hu : X.A.units < cLine) (ha : SE X w a fa) : SE X w (.Compare a [.NotEq] [.Dict [] [] p] pos) (fNeE fa) := PE.imp (pe_cmpR (op_neE hu) ha pe_dnewX rfl) fun σ H Q h => go_neE h
theorem st_neE (hu : X.A.units < cLine) (ha : SE X w a fa) : ST X w (.Compare a [.NotEq] [.Dict [] [] p] pos) (tVal (fNeE fa)) := by
  refine PT.imp (pt_cmpR (op_neE hu) ha pe_dnewX rfl) fun σ H Q ⟨B, L, ρ, S, env, A, gg⟩ => ?_
  have key : tE (pg X) w.W w.xm (fNeE fa) σ H fun x H1 => ∃ k, x = .bl k ∧ Q k H1 := by
    refine tE_mono (tE_bind (rel := fun _ => rB) (f := fNeE fa) A gg) fun x H1 ⟨B, L, ρ, S, d, A, r, g⟩ => ?_
    cases r with
    | bl c => exact ⟨c, rfl, GO.ok0 g A rfl⟩
    | _ => exact g.elim
  exact go_neE key
end
theorem hu9 {k : Nat} {A : Around} (hr : Room k A) : A.units + 9 < cLine := by have := hr.units; omega
theorem hu0 {k : Nat} {A : Around} (hr : Room k A) : A.units < cLine := by have := hr.units; omega
/-! f() -/
def fCall0 (F : Fn) : FE := fun _ S => F [] S
section
variable {X : Cx} {w : Wx} {k : Nat} {f : Addr} {fd : FuncData} {ps : List Str} {F : Fn} {x : Str} {p pos : Pos}
theorem se_call0 (FO : FnOk X.prog X.w X.K X.mg X.base (L2.CX X.prog X.w) k f fd ps (spOf (pg X) w.xm 0 F)) (tk : Takes X w.W) (hr : Room k X.A) (hm : X.mg x = some (.ref f)) (hk : PySem.W.keepIn X.K (.ref f) = true) (hb : Binds X.K fd ps [])
    (hg : Gl X x := by rfl) (hdb : (x == ("__debug__" : Str)) = false := by decide) : SE X w (.Call (.Name x p) [] [] pos) (fCall0 F) := by
  refine ⟨fun pins s σ H Q I ⟨B, L, ρ, S, env, A, g⟩ => ?_⟩
  refine wpAny_Call_Name_kw (ld_glob I hg hm ?_ hdb)
  refine PySem.W.callWith_K0 I.kIn hk (run_fnS (us := []) (E := WE w.W) FO hr hb (passAt tk σ) I .nil ⟨rfl, B, L, ρ, S, [], A.rh, .nil, ?_⟩)
  revert g
  unfold fCall0
  cases F [] S with
  | ok d S2 => exact fun g => g
  | exc c S2 => exact fun g => g
  | bad => exact fun g => g
end
end Sf
end

section
set_option Elab.async false
set_option maxRecDepth 100000
set_option linter.all false
/-! Sd8: x in a list or a tuple of flat values. -/
namespace Sf
open PySem PySem.Spec PyProof.Rows L2
def flatD : D → Bool
  | .non => true
  | .bl _ => true
  | .int _ => true
  | .str _ => true
  | _ => false
def eqD : D → D → Bool
  | .non, b => match b with
    | .non => true
    | _ => false
  | .bl a, b => match b with
    | .bl b => a == b
    | .int b => (if a then 1 else 0) == b
    | _ => false
  | .int a, b => match b with
    | .bl b => a == (if b then 1 else 0)
    | .int b => a == b
    | _ => false
  | .str a, b => match b with
    | .str b => a == b
    | _ => false
  | _, _ => false
def inD (x : D) (xs : List D) : Bool := xs.any fun y => eqD y x
def seqOf (y : D) (S : Sto) : Option (List D) := match y with
  | .tup l => some l
  | y => lsR y S
def oInG (neg : Bool) : Op2 := fun x y S => match seqOf y S with
  | some l => bif flatD x && l.all flatD then some (.bl (if neg then !inD x l else inD x l), S) else none
  | none => none
abbrev oIn : Op2 := oInG false
abbrev oNin : Op2 := oInG true
section
variable {K : PySem.W.Frag} {B ρ : List Addr} {H : Hp}
theorem flat_ok {d : D} {v : V} (r : RV K B ρ H d v) (h : flatD d = true) : flatV v = true := by
  cases r <;> first | rfl | (cases h; done)
theorem eqD_ok {d e : D} {v w : V} (r : RV K B ρ H d v) (r' : RV K B ρ H e w) (h : flatD d = true) (h' : flatD e = true) : eqV v w = eqD d e := by
  cases r <;> cases r' <;> first | rfl | (cases h; done) | (cases h'; done)
theorem flats_ok : ∀ {ds : List D} {vs : List V}, RVs K B ρ H ds vs → ds.all flatD = true → vs.all flatV = true
  | _, _, .nil, _ => rfl
  | _, _, .cons r t, h => by
    rw [List.all_cons, Bool.and_eq_true] at h
    rw [List.all_cons, flat_ok r h.1, flats_ok t h.2]; rfl
theorem inD_ok {d : D} {v : V} (r : RV K B ρ H d v) (hd : flatD d = true) : ∀ {ds : List D} {vs : List V}, RVs K B ρ H ds vs → ds.all flatD = true → inV v vs = inD d ds
  | _, _, .nil, _ => rfl
  | _, _, .cons r' t, h => by
    rw [List.all_cons, Bool.and_eq_true] at h
    have := inD_ok r hd t h.2
    unfold inV inD at this ⊢
    rw [List.any_cons, List.any_cons, eqD_ok r' r h.1 hd, this]
end
section
variable {X : Cx}
theorem ok_inG {neg : Bool} : Ok2 (pg X) (rIn X.K neg) (oInG neg) := by
  intro B L ρ S S' H d1 d2 d' x y Q R r1 r2 e q
  unfold oInG at e
  have key : ∀ (l : List D) (p : Addr) (xs : List V), RVs X.K B ρ H l xs → (SqL X.K H p xs ∨ SqT X.K H p xs) → y = .ref p →
      (bif flatD d1 && l.all flatD then some (D.bl (if neg then !inD d1 l else inD d1 l), S) else none) = some (d', S') → rIn X.K neg x y H Q := by
    intro l p xs rv hs ey e
    cases hf : (flatD d1 && l.all flatD) with
    | false => rw [hf] at e; cases e
    | true =>
      rw [hf] at e
      cases e
      rw [Bool.and_eq_true] at hf
      refine ⟨p, xs, ey, hs, flat_ok r1 hf.1, flats_ok rv hf.2, ?_⟩
      rw [inD_ok r1 hf.1 rv hf.2]
      exact here q R (.bl _)
  cases hq : seqOf d2 S with
  | none => rw [hq] at e; cases e
  | some l =>
    rw [hq] at e
    simp only at e
    cases r2 with
    | tup h r => cases hq; exact key _ _ _ r (.inr h.sq) rfl e
    | non => cases hq
    | bl b => cases hq
    | int i => cases hq
    | str s => cases hq
    | glob h => cases hq
    | lst h1 h2 h3 h4 => obtain ⟨a, vs, e1, e2, e3⟩ := lsR_ok R (.lst h1 h2 h3 h4) hq; exact key l a vs e3 (.inl e2) e1 e
    | scr h1 h2 => obtain ⟨a, vs, e1, e2, e3⟩ := lsR_ok R (.scr h1 h2) hq; exact key l a vs e3 (.inl e2) e1 e
    | loc h => obtain ⟨a, vs, e1, e2, e3⟩ := lsR_ok R (.loc h) hq; exact key l a vs e3 (.inl e2) e1 e
theorem opr_in : OpR X (compareOp .In) (rIn X.K false) := op_in_seq
theorem opr_nin : OpR X (compareOp .NotIn) (rIn X.K true) := op_notIn_seq
theorem ok_in : Ok2 (pg X) (rIn X.K false) oIn := ok_inG
theorem ok_nin : Ok2 (pg X) (rIn X.K true) oNin := ok_inG
end
end Sf
end

section
set_option Elab.async false
set_option maxRecDepth 100000
set_option linter.all false
/-! Sd9: max of a list of pairs of ints. -/
namespace Sf
open PySem PySem.Spec PyProof.Rows L2
def pairOf (d : D) : Option (Int × Int) := match d with
  | .tup l => match intsD l with
    | some [a, b] => some (a, b)
    | _ => none
  | _ => none
def prsD : List D → Option (List (Int × Int))
  | [] => some []
  | d :: r => match pairOf d, prsD r with
    | some p, some ps => some (p :: ps)
    | _, _ => none
def ltPr (a b : Int × Int) : Bool := decide (a.1 < b.1) || (decide (a.1 = b.1) && decide (a.2 < b.2))
def maxPr (x : Int × Int) (xs : List (Int × Int)) : Int × Int := xs.foldl (fun a y => if ltPr a y then y else a) x
def pairD (p : Int × Int) : D := .tup [.int p.1, .int p.2]
def oMaxP : OpN := fun xs S => match xs with
  | [x] => match lsR x S with
    | some l => match prsD l with
      | some (p :: ps) => some (pairD (maxPr p ps), S)
      | _ => none
    | none => none
  | _ => none
def pyP (p : Int × Int) : PyData := .tuple [.int p.1, .int p.2]
section
variable {G : Pg} {B ρ : List Addr} {H : Hp}
theorem intsD_inv : ∀ {l : List D} {ns : List Int}, intsD l = some ns → l = ns.map D.int
  | [], ns, e => by cases e; rfl
  | d :: r, ns, e => by
    cases d with
    | int i =>
      unfold intsD at e
      cases q : intsD r with
      | none => rw [q] at e; cases e
      | some ms => rw [q] at e; cases e; rw [intsD_inv q]; rfl
    | _ => unfold intsD at e; cases e
theorem dpAll_ints {K : PySem.W.Frag} : ∀ ns : List Int, DpAll K H (ns.map V.int) (ns.map PyData.int)
  | [] => .nil
  | i :: ns => .cons (.int i) (dpAll_ints ns)
theorem pairOf_ok {d : D} {v : V} {p : Int × Int} (h : RV G.K B ρ H d v) (e : pairOf d = some p) : d = pairD p ∧ Dp G.K H v (pyP p) := by
  unfold pairOf at e
  cases h with
  | @tup a ws ds h1 h2 =>
    simp only at e
    cases q : intsD ds with
    | none => rw [q] at e; cases e
    | some ns =>
      rw [q] at e
      match ns, q, e with
      | [x, y], q, e =>
        cases e
        have e1 := intsD_inv q
        have e2 := intsD_ok h2 q
        subst e1 e2
        exact ⟨rfl, .tup h1.sq (dpAll_ints [x, y])⟩
      | [], _, e => cases e
      | [_], _, e => cases e
      | _ :: _ :: _ :: _, _, e => cases e
  | _ => cases e
theorem prsD_ok : ∀ {l : List D} {ps : List (Int × Int)} {vs : List V}, RVs G.K B ρ H l vs → prsD l = some ps → l = ps.map pairD ∧ DpAll G.K H vs (ps.map pyP)
  | [], ps, _, .nil, e => by cases e; exact ⟨rfl, .nil⟩
  | d :: r, ps, _, .cons h t, e => by
    unfold prsD at e
    cases q1 : pairOf d with
    | none => rw [q1] at e; cases e
    | some p =>
      cases q2 : prsD r with
      | none => rw [q1, q2] at e; cases e
      | some ms =>
        rw [q1, q2] at e; cases e
        obtain ⟨a1, a2⟩ := pairOf_ok h q1
        obtain ⟨b1, b2⟩ := prsD_ok t q2
        exact ⟨by rw [a1, b1]; rfl, .cons a2 b2⟩
end
theorem dataLt_pr (a b : Int × Int) : PySem.W.dataLt (pyP a) (pyP b) = ltPr a b := by
  obtain ⟨a1, a2⟩ := a
  obtain ⟨b1, b2⟩ := b
  have e : ∀ x y : Int, PySem.W.keyToks (pyP (x, y)) = [.inl 1, .inl x, .inl 1, .inl y, .inl 0] := fun x y => by
    simp [pyP, PySem.W.keyToks, PySem.W.keyToksAll]
  have d : ∀ x y : Int, PyProof.Rows.lexLt itemOrd [.inl x] [.inl y] = decide (x < y) := fun x y => PySem.W.dataLt_int x y
  unfold PySem.W.dataLt
  rw [e, e]
  have s := fun (x : Int ⊕ List Nat) l m => lex_self (O := itemOrd) x l m
  rw [s]
  unfold ltPr
  by_cases h1 : a1 = b1
  · subst h1
    rw [s, s]
    by_cases h2 : a2 = b2
    · subst h2
      rw [s, d]; simp
    · rw [PySem.W.lex_atom (by intro z; cases z; exact h2 rfl), d]; simp
  · rw [PySem.W.lex_atom (by intro z; cases z; exact h1 rfl), d]; simp [h1]
theorem maxD_pr (p : Int × Int) : ∀ ps : List (Int × Int), PySem.W.maxD (pyP p) (ps.map pyP) = pyP (maxPr p ps) := by
  intro ps
  unfold PySem.W.maxD maxPr
  induction ps generalizing p with
  | nil => rfl
  | cons q r ih =>
    rw [List.map_cons, List.foldl_cons, List.foldl_cons, ← ih, dataLt_pr]
    cases ltPr p q <;> rfl
theorem alike_prs (ps : List (Int × Int)) : PySem.W.AlikeAll (ps.map pyP) := by
  refine ⟨fun x hx y hy => ?_, fun x hx => ?_⟩
  · obtain ⟨p, _, rfl⟩ := List.mem_map.mp hx
    obtain ⟨q, _, rfl⟩ := List.mem_map.mp hy
    simp [pyP, PySem.W.alike, PySem.W.alikeAll]
  · obtain ⟨p, _, rfl⟩ := List.mem_map.mp hx
    intro h; cases h
theorem depth_prs : ∀ ps : List (Int × Int), PyData.depthAll (ps.map pyP) ≤ 1
  | [] => by simp [PyData.depthAll]
  | p :: ps => by
    have := depth_prs ps
    rw [List.map_cons]
    unfold PyData.depthAll
    simp [pyP, PyData.depth, PyData.depthAll]
    omega
/-- max of a list of pairs -/
def rMaxPr (K : PySem.W.Frag) : List V → Hp → VK → Prop := fun vs H Q => ∃ (a : Addr) (xs : List V) (p : Int × Int) (ps : List (Int × Int)), vs = [.ref a] ∧ SqL K H a xs ∧ DpAll K H xs ((p :: ps).map pyP) ∧
  ∀ (i : Nat) (x : V), xs[i]? = some x → (p :: ps)[i]? = some (maxPr p ps) → Q x H
theorem pyP_inj {p q : Int × Int} (h : pyP p = pyP q) : p = q := by
  obtain ⟨a, b⟩ := p
  obtain ⟨c, d⟩ := q
  unfold pyP at h
  simp at h
  rw [h.1, h.2]
theorem callr_maxP {X : Cx} {k : Nat} (hc : X.calm = true) (hr : Room k X.A) : CallR X (.builtin "max") (rMaxPr X.K) := by
  intro pins s σ H vs us Q I r h
  obtain ⟨a, xs, p, ps, rfl, hs, hd, q⟩ := h
  obtain ⟨its, rv, hl, _⟩ := I.list hs
  rw [Vals.ref1 r]
  obtain ⟨as, rd⟩ := Dp.readsAll I _ _ its hd rv
  have hu := hr.units
  refine PySem.W.max_list_data (I.ok.hd hc) hl.isList (x := pyP p) (xs := ps.map pyP) (as := as) (by simpa using rd) (alike_prs (p :: ps)) (by have := depth_prs (p :: ps); have e : PyData.depthAll (pyP p :: ps.map pyP) ≤ 1 := this; omega) fun i v h' tk bs hv hR hk => ?_
  have hv' : its[i]? = some v := by simpa using hv
  obtain ⟨x, hx, rx⟩ : ∃ x, xs[i]? = some x ∧ RelV x v := by
    have key : ∀ {xs : List V} {us : List Value} {i : Nat} {v : Value}, Vals xs us → us[i]? = some v → ∃ x, xs[i]? = some x ∧ RelV x v := by
      intro xs us i v r
      induction r generalizing i with
      | nil => intro h; simp at h
      | cons h _ ih =>
        intro hv
        cases i with
        | zero => simp at hv; subst hv; exact ⟨_, rfl, h⟩
        | succ i => simpa using ih (by simpa using hv)
    exact key rv hv'
  obtain ⟨bs', r2, hlt, _, _⟩ := PySem.W.readsAll_at rd i v hv'
  have det := (PyProof.Rows.reads_det (fun b o e _ => hk b o e) r2 hR).1
  refine ⟨x, H, I.kept hk, rx, q i x hx ?_⟩
  rw [maxD_pr] at det
  rw [List.length_map] at hlt
  have e1 : ((p :: ps).map pyP).getD i .none = pyP ((p :: ps)[i]) := by
    rw [List.getD_eq_getElem?_getD, List.getElem?_map, List.getElem?_eq_getElem hlt]; rfl
  rw [e1] at det
  rw [List.getElem?_eq_getElem hlt, pyP_inj det.symm]
theorem ok_maxP {X : Cx} : OkN (pg X) (rMaxPr X.K) oMaxP := by
  intro B L ρ S S' H ds d' xs Q R r e q
  unfold oMaxP at e
  match ds, r, e with
  | [x], .cons r1 .nil, e =>
    simp only at e
    cases e1 : lsR x S with
    | none => rw [e1] at e; cases e
    | some l =>
      rw [e1] at e
      simp only at e
      cases e2 : prsD l with
      | none => rw [e2] at e; cases e
      | some ps =>
        rw [e2] at e
        cases ps with
        | nil => cases e
        | cons p ps =>
          cases e
          obtain ⟨a, vs, rfl, hs, rv⟩ := lsR_ok R r1 e1
          obtain ⟨el, hd⟩ := prsD_ok rv e2
          refine ⟨a, vs, p, ps, rfl, hs, hd, fun i x hx hi => ?_⟩
          have hli : l[i]? = some (pairD (maxPr p ps)) := by rw [el, List.getElem?_map, hi]; rfl
          obtain ⟨v, hv, rvv⟩ := rv.get hli
          rw [hx] at hv; cases hv
          exact here q R rvv
  | [], .nil, e => cases e
  | _ :: _ :: _, _, e => cases e
end Sf
end

section
set_option Elab.async false
set_option maxRecDepth 100000
set_option linter.all false
/-! Sd10: x[::-1] of a tuple or a list. -/
namespace HT
open PySem PyProof.Rows
section
variable {prog : Program} {w : World} {A : Around} {E : Value → Shared → Prop} {s : Shared}
theorem adjust_rev (n : Nat) : Builtin.Slice.sliceAdjust none none (-1) (n : Int) = ((n : Int) - 1, -1) := by
  unfold Builtin.Slice.sliceAdjust
  simp
theorem places_rev (n : Nat) : Builtin.Slice.slicePlaces ((n : Int) - 1) (-1) (-1) = n := by
  unfold Builtin.Slice.slicePlaces
  have h1 : ¬ ((-1 : Int) > 0) := by omega
  simp only [h1, if_false]
  rw [show (-(-1) : Int) = 1 by decide, Int.ediv_one]
  split <;> omega
theorem pick_rev (xs : Array Value) : ((List.range xs.size).filterMap fun (m : Nat) => xs[((xs.size : Int) - 1 + (m : Int) * -1).toNat]?).toArray = xs.toList.reverse.toArray := by
  rw [← PySem.W.krv_pick]
  unfold slicePick
  rw [PySem.W.krv_bounds]
  show _ = ((sliceRange ((xs.size : Int) - 1) (-1) (-1)).filterMap (xs[·]?)).toArray
  rw [PySem.W.krv_sliceRange, List.filterMap_map]
  congr 1
  have : ∀ l : List Nat, (∀ m ∈ l, m < xs.size) → l.filterMap (fun (m : Nat) => xs[((xs.size : Int) - 1 + (m : Int) * -1).toNat]?) = l.filterMap ((fun x => xs[x]?) ∘ fun k => xs.size - 1 - k) := by
    intro l
    induction l with
    | nil => intro _; rfl
    | cons m l ih =>
      intro h
      have hm := h m (by simp)
      have e : ((xs.size : Int) - 1 + (m : Int) * -1).toNat = xs.size - 1 - m := by omega
      rw [List.filterMap_cons, List.filterMap_cons, ih fun k hk => h k (by simp [hk]), e]
      rfl
  exact this _ fun m hm => List.mem_range.mp hm
theorem sliceApplied_rev {sl : Addr} {vl vu vs : Value} {n : Nat} {Q : Int × Int × Nat → Shared → Prop} (hs : s.heap.IsSliceOf sl vl vu vs) (pl : IsPart vl none) (pu : IsPart vu none) (ps : IsPart vs (some (-1)))
    (h : Q ((n : Int) - 1, -1, n) s) : wpAny (model prog w) A (Builtin.Slice.sliceApplied (.ref sl) (pure (n : Int))) Q E s := by
  obtain ⟨os, hos, hcs, hds⟩ := id hs
  unfold Builtin.Slice.sliceApplied Builtin.Slice.sliceFields
  refine wpAny_bind (wpAny_bind (wpAny_field hos hds (x := vl) rfl (wpAny_bind (wpAny_field hos hds (x := vu) rfl (wpAny_bind (wpAny_field hos hds (x := vs) rfl (wpAny_pure ?_)))))))
  refine wpAny_bind (slicePart_ ps ?_)
  show wpAny _ _ (if ((-1 : Int) == 0) = true then _ else _) _ _ s
  rw [if_neg (by decide)]
  refine wpAny_bind (slicePart_ pl (wpAny_bind (slicePart_ pu (wpAny_bind (wpAny_pure ?_)))))
  show wpAny _ _ (match Builtin.Slice.sliceAdjust none none (-1) (n : Int) with | (lo, hi) => pure (lo, (-1 : Int), Builtin.Slice.slicePlaces lo hi (-1))) _ _ s
  rw [adjust_rev n]
  show wpAny _ _ (pure ((n : Int) - 1, (-1 : Int), Builtin.Slice.slicePlaces ((n : Int) - 1) (-1) (-1))) _ _ s
  rw [places_rev]
  exact wpAny_pure h
theorem getItem_tuple_rev {t sl : Addr} {items : Array Value} {vl vu vs : Value} {Q : Value → Shared → Prop} (ht : IsTup s.heap t items) (hs : s.heap.IsSliceOf sl vl vu vs) (pl : IsPart vl none) (pu : IsPart vu none) (ps : IsPart vs (some (-1)))
    (h : Q (.ref s.heap.objs.size) { s with heap := s.heap.push { cls := .type "tuple", data := .seq items.toList.reverse.toArray } })
    (hsz : items.size ≤ sizeLine) : wpAny (model prog w) A (getItem (.ref t) (.ref sl)) Q E s := by
  have htake : sizeOk (.seq items.toList.reverse.toArray) := by
    show items.toList.reverse.toArray.size ≤ sizeLine
    rw [List.size_toArray, List.length_reverse, Array.length_toList]
    exact hsz
  obtain ⟨os, hos, hcs, hds⟩ := id hs
  have hTs : s.TypeIs (.ref sl) "slice" := ⟨os, hos, hcs⟩
  unfold getItem
  try with_reducible refine wpAny_holding ?_
  first | refine wpAny_bind (wpAny_pure ?_) | skip
  refine wpAny_bind (wpAny_sequenceKey ht.typeIs (by decide) ?_)
  refine wpAny_bind (wpAny_callSpecial?_slot (name := Str.ofString "__getitem__") ht.typeIs PyProof.Rows.slot_tuple_getitem
    (wpAny_call_entry PyProof.Rows.slot_tuple_getitem ht.typeIs entry_tuple_getitem ?_ (args_tuple_getitem _ _)))
  show wpAny _ _ (Builtin.Tuple.tupleItemsOf (.ref t) >>= _) _ _ s
  refine wpAny_bind (tupleItemsOf_ ht ?_)
  refine wpAny_bind (wpAny_typeOf hTs ?_)
  rw [if_pos (by decide)]
  refine wpAny_bind (sliceApplied_rev hs pl pu ps ?_)
  have hno : ¬ ((((items.size : Int) - 1) == 0 && (-1 : Int) == 1 && items.size == items.size) = true) := by
    intro q
    rw [Bool.and_eq_true, Bool.and_eq_true] at q
    exact absurd (eq_of_beq q.1.2) (by decide)
  show wpAny _ _ (if (((items.size : Int) - 1) == 0 && (-1 : Int) == 1 && items.size == items.size) = true then _ else _) _ _ s
  rw [if_neg hno, pick_rev]
  first
    | exact wpAny_bind (m := Builtin.Tuple.tupleExact _) (wpAny_newObj_type (wpAny_pure ⟨_, rfl, wpAny_pure h⟩) htake)
    | exact wpAny_bind (m := Builtin.Tuple.tupleExact _) (wpAny_newObj_type (wpAny_bind (wpAny_pure (wpAny_pure ⟨_, rfl, wpAny_pure h⟩))) htake)
    | exact wpAny_bind (wpAny_bind (m := Builtin.Tuple.tupleExact _) (wpAny_newObj_type (wpAny_pure (wpAny_pure ⟨_, rfl, wpAny_pure h⟩)) htake))
    | exact wpAny_bind (wpAny_bind (m := Builtin.Tuple.tupleExact _) (wpAny_newObj_type (wpAny_pure ⟨_, rfl, wpAny_pure h⟩) htake))
end
end HT
namespace L2
open PySem PySem.Spec PyProof.Rows
def tRevA (K : PySem.W.Frag) (te : TE) : TE := fun σ H Q => te σ H fun x H1 => ∃ a xs, x = .ref a ∧ ((SqL K H1 a xs ∧ ∀ p, H1 p = none → Q (.ref p) (upd H1 p (.lst xs.reverse))) ∨ (SqT K H1 a xs ∧ ∀ p, H1 p = none → Q (.ref p) (upd H1 p (.tup xs.reverse))))
section
variable {X : Cx}
theorem pe_revA {e : Expr} {te : TE} {k : Nat} {p1 p2 p3 pos : Pos} (he : PE X e te) : PE X (.Subscript e (.Slice none none (some (.UnaryOp .USub (.Constant (.int 1) k p1) p2)) p3) pos) (tRevA X.K te) := by
  refine ⟨fun pins s σ H Q I h => ?_⟩
  refine Subscript_ (thn (he.run pins s σ H _ I h) fun v s1 ⟨x, H1, I1, r1, q1⟩ => ?_)
  obtain ⟨a, xs, ex, hq⟩ := q1
  subst ex
  cases r1
  have hst : PO X (some (.UnaryOp .USub (.Constant (.int 1) k p1) p2)) (tPart (tUn (rU fun i => .int (-i)) (tC (.int 1)))) := po_some (pe_un un_neg pe_int)
  refine wpAny_Slice (thn (po_none.run pins s1 σ H1 (fun o H2 => o = none ∧ H2 = H1) I1 ⟨rfl, rfl⟩) fun vl s2 ⟨l, H2, I2, pl, el, e2⟩ => ?_)
  subst el e2
  refine thn (po_none.run pins s2 σ H2 (fun o H3 => o = none ∧ H3 = H2) I2 ⟨rfl, rfl⟩) fun vu s3 ⟨u, H3, I3, pu, eu, e3⟩ => ?_
  subst eu e3
  refine thn (hst.run pins s3 σ H3 (fun o H4 => o = some (-1) ∧ H4 = H3) I3 ⟨1, rfl, -1, rfl, rfl, rfl⟩) fun vs s4 ⟨o, H4, I4, ps, eo, e4⟩ => ?_
  subst eo e4
  have I5 : Inv X pins σ H4 { s4 with heap := s4.heap.push { cls := .type "slice", data := .fields #[vl, vu, vs] } } := I4.kept (t' := s4.toks) fun b ob q => Heap.get?_push_of_some _ q
  show wpAny (model X.prog X.w) X.A (subscriptTail e (.Slice none none (some (.UnaryOp .USub (.Constant (.int 1) k p1) p2)) p3) (.ref a) (.ref s4.heap.objs.size)) (EP X pins σ Q) X.xe { s4 with heap := s4.heap.push { cls := .type "slice", data := .fields #[vl, vu, vs] } }
  rcases hq with ⟨hx, q⟩ | ⟨hx, q⟩
  · obtain ⟨its, r, ht, hz⟩ := I5.list hx
    have hlen := r.length
    refine tail_any (ops := [.ref a, .ref s4.heap.objs.size]) ht.isList.typeIs (PySem.slot_list_getitem.lookup) ?_ (by with_unfolding_all rfl)
    refine wpAny_getItem_list_slice ht.isList (Heap.IsSliceOf.new _ vl vu vs) pl pu ps (by decide) ?_ (by rw [List.size_toArray]; omega)
    rw [PySem.W.krv_pick]
    refine ⟨.ref _, _, I5.laid (t' := s4.toks) (o := .lst xs.reverse) (fun b ob q => Heap.get?_push_of_some _ q) (Nat.le_refl _) ?_, rfl, q _ (I5.hok.fresh (Nat.le_refl _))⟩
    exact ⟨by rw [List.length_reverse]; exact hz, _, 0, r.reverse, Heap.get?_push_size _ rfl⟩
  · obtain ⟨its, r, ht, hz⟩ := I5.tuple hx
    have hlen := r.length
    refine tail_any (ops := [.ref a, .ref s4.heap.objs.size]) ht.typeIs (PyProof.Rows.slot_tuple_getitem.lookup) ?_ (by with_unfolding_all rfl)
    refine HT.getItem_tuple_rev ht (Heap.IsSliceOf.new _ vl vu vs) pl pu ps ?_ (by rw [List.size_toArray]; omega)
    refine ⟨.ref _, _, I5.laid (t' := s4.toks) (o := .tup xs.reverse) (fun b ob q => Heap.get?_push_of_some _ q) (Nat.le_refl _) ?_, rfl, q _ (I5.hok.fresh (Nat.le_refl _))⟩
    exact ⟨by rw [List.length_reverse]; exact hz, _, r.reverse, IsTup.new _ _⟩
end
end L2
namespace Sf
open PySem PySem.Spec PyProof.Rows L2
def oRevA (m : Bool) : Op1 := fun x S => match x with
  | .tup l => some (.tup l.reverse, S)
  | x => oRev m x S
section
variable {X : Cx} {w : Wx} {e : Expr} {fe : FE} {pos : Pos}
theorem se_revA {m : Bool} {k : Nat} {p1 p2 p3 : Pos} (he : SE X w e fe) : SE X w (.Subscript e (.Slice none none (some (.UnaryOp .USub (.Constant (.int 1) k p1) p2)) p3) pos) (fOp1 (oRevA m) fe) :=
  PE.imp (pe_revA he) fun σ H Q ⟨B, L, ρ, S, env, A, gg⟩ => go_op1 (X := X) (r := fun x H1 Q => ∃ a xs, x = .ref a ∧ ((SqL X.K H1 a xs ∧ ∀ p, H1 p = none → Q (.ref p) (upd H1 p (.lst xs.reverse))) ∨ (SqT X.K H1 a xs ∧ ∀ p, H1 p = none → Q (.ref p) (upd H1 p (.tup xs.reverse))))) (fun B L ρ S S' H d d' x Q R r e q => by
    have gen : oRev m d S = some (d', S') → ∃ a xs, x = .ref a ∧ ((SqL X.K H a xs ∧ ∀ p, H p = none → Q (.ref p) (upd H p (.lst xs.reverse))) ∨ (SqT X.K H a xs ∧ ∀ p, H p = none → Q (.ref p) (upd H p (.tup xs.reverse)))) := by
      intro e
      unfold oRev at e
      cases e1 : lsR d S with
      | none => rw [e1] at e; cases e
      | some l =>
        rw [e1] at e
        obtain ⟨a, vs, rfl, h1, h2⟩ := lsR_ok (G := pg X) R r e1
        exact ⟨a, vs, rfl, .inl ⟨h1, (mkL_ok R h2.reverse e q).2⟩⟩
    cases r with
    | @tup a vs ds h1 h2 =>
      cases e
      exact ⟨a, vs, rfl, .inr ⟨h1.sq, mkT_ok R h2.reverse q⟩⟩
    | _ => exact gen e) A gg
end
end Sf
end

section
set_option Elab.async false
set_option maxRecDepth 100000
set_option linter.all false
/-! Sp: the combinators as rules for simp. -/
namespace Sf
open PySem PySem.Spec PyProof.Rows L2
section
variable {α β : Type} {env : En} {S : Sto} {a b c : FE} {ft ft' : FT} {fs fr : FA} {f g : FS}
@[simp] theorem x_bind {x : α} {k : α → Sto → Out β} : (Out.ok x S).bind k = k x S := rfl
@[simp] theorem x_bindS {x : α} {k : α → Sto → SR} : (Out.ok x S).bindS k = k x S := rfl
@[simp] theorem x_bindN {k : En → Sto → SR} : (SR.nx env S).bindN k = k env S := rfl
@[simp] theorem x_bindNr {d : D} {k : En → Sto → SR} : (SR.rt d S).bindN k = .rt d S := rfl
@[simp] theorem x_bindNb {k : En → Sto → SR} : (SR.bk env S).bindN k = .bk env S := rfl
@[simp] theorem x_bindNc {k : En → Sto → SR} : (SR.ct env S).bindN k = .ct env S := rfl
@[simp] theorem x_var {i : Nat} : fVar i env S = match env[i]? with
  | some d => match d with
    | .und => .bad
    | d => .ok d S
  | none => .bad := rfl
@[simp] theorem x_con {d : D} : fCon d env S = .ok d S := rfl
@[simp] theorem x_outO {x : α} : outO (some (x, S)) = .ok x S := rfl
@[simp] theorem x_op1 {o : Op1} : fOp1 o a env S = (a env S).bind fun x S1 => outO (o x S1) := rfl
@[simp] theorem x_op2 {o : Op2} : fOp2 o a b env S = (a env S).bind fun x S1 => (b env S1).bind fun y S2 => outO (o x y S2) := rfl
@[simp] theorem x_nil : fNil env S = .ok [] S := rfl
@[simp] theorem x_cons : fCons a fs env S = (a env S).bind fun x S1 => (fs env S1).bind fun xs S2 => .ok (x :: xs) S2 := rfl
@[simp] theorem x_opN {o : OpN} : fOpN o fs env S = (fs env S).bind fun xs S1 => outO (o xs S1) := rfl
@[simp] theorem x_val : tVal a env S = (a env S).bind fun x S1 => match x with
  | .bl b => .ok b S1
  | _ => .bad := rfl
@[simp] theorem x_and : Sf.tAnd ft ft' env S = (ft env S).bind fun x S1 => bif x then ft' env S1 else .ok false S1 := rfl
@[simp] theorem x_or : Sf.tOr ft ft' env S = (ft env S).bind fun x S1 => bif x then .ok true S1 else ft' env S1 := rfl
@[simp] theorem x_not : Sf.tNot ft env S = (ft env S).bind fun x S1 => .ok (!x) S1 := rfl
@[simp] theorem x_if : fIf ft a b env S = (ft env S).bind fun x S1 => bif x then a env S1 else b env S1 := rfl
@[simp] theorem x_fand : fAnd a b env S = (a env S).bind fun x S1 => match x with
  | .bl c => bif c then b env S1 else .ok (.bl false) S1
  | _ => .bad := rfl
@[simp] theorem x_for : fOr a b env S = (a env S).bind fun x S1 => match x with
  | .bl c => bif c then .ok (.bl true) S1 else b env S1
  | _ => .bad := rfl
@[simp] theorem x_fnot : fNot a env S = (a env S).bind fun x S1 => match x with
  | .bl c => .ok (.bl (!c)) S1
  | _ => .bad := rfl
@[simp] theorem x_skip : sSkip env S = .nx env S := rfl
@[simp] theorem x_seq : sSeq f g env S = (f env S).bindN g := rfl
@[simp] theorem x_break : sBreak env S = .bk env S := rfl
@[simp] theorem x_cont : sCont env S = .ct env S := rfl
@[simp] theorem x_expr : sExpr a env S = (a env S).bindS fun _ S1 => .nx env S1 := rfl
@[simp] theorem x_ret : sRet a env S = (a env S).bindS fun x S1 => .rt x S1 := rfl
@[simp] theorem x_sif : sIf ft f g env S = (ft env S).bindS fun x S1 => bif x then f env S1 else g env S1 := rfl
@[simp] theorem x_asg {i : Nat} : sAsg i a env S = (a env S).bindS fun x S1 => .nx (env.set i x) S1 := rfl
@[simp] theorem x_asgT {is : List Nat} : sAsgT is a env S = (a env S).bindS fun x S1 => match unTup is x env with
  | some env' => .nx env' S1
  | none => .bad := rfl
@[simp] theorem x_unTup {is : List Nat} {l : List D} : unTup is (.tup l) env = bif Nat.beq l.length is.length then some (setAllE env is l) else none := rfl
@[simp] theorem x_set1 {i : Nat} {is : List Nat} {d : D} {l : List D} : setAllE env (i :: is) (d :: l) = setAllE (env.set i d) is l := rfl
@[simp] theorem x_set0 : setAllE env [] [] = env := rfl
@[simp] theorem x_par2 {i j : Nat} : sPar2 i j fs env S = (fs env S).bindS fun xs S1 => bif len2 xs then .nx (setAllE env [i, j] xs) S1 else .bad := rfl
@[simp] theorem x_par3 {i j k : Nat} : sPar3 i j k fs env S = (fs env S).bindS fun xs S1 => bif len3 xs then .nx (setAllE env [i, j, k] xs) S1 else .bad := rfl
@[simp] theorem x_len2 {x y : D} : len2 [x, y] = true := rfl
@[simp] theorem x_len3 {x y z : D} : len3 [x, y, z] = true := rfl
@[simp] theorem x_asgIx : sAsgIx a b c env S = (a env S).bindS fun x S1 => (b env S1).bindS fun o S2 => (c env S2).bindS fun i S3 => match setO o i x S3 with
  | some S4 => .nx env S4
  | none => .bad := rfl
@[simp] theorem x_aug {i : Nat} {o : Op2} : sAug i o a env S = (fVar i env S).bindS fun x S1 => (a env S1).bindS fun y S2 => match o x y S2 with
  | some (z, S3) => .nx (env.set i z) S3
  | none => .bad := rfl
@[simp] theorem x_augIx {o : Op2} : sAugIx o a b c env S = (a env S).bindS fun o' S1 => (b env S1).bindS fun i S2 => augK o c env o' i S2 := rfl
@[simp] theorem x_augK {o : Op2} {n : Nat} {k : Int} : augK o a env (.loc n) (.int k) S = match oIx (.loc n) (.int k) S with
    | some (x, S3) => (a env S3).bindS fun y S4 => augJ o env (.loc n) (.int k) x y S4
    | none => .bad := rfl
@[simp] theorem x_augJ {o : Op2} {d i x y : D} : augJ o env d i x y S = match o x y S with
  | some (z, S5) => sto env (setO d i z S5)
  | none => .bad := rfl
@[simp] theorem x_sto : sto env (some S) = .nx env S := rfl
@[simp] theorem x_tup : fTup fs env S = (fs env S).bind fun xs S1 => bif fit xs.length then .ok (.tup xs) S1 else .bad := rfl
@[simp] theorem x_lst {m : Bool} : fLst m fs env S = (fs env S).bind fun xs S1 => outO (mkL m xs S1) := rfl
@[simp] theorem x_call {F : Fn} : fCall F fs env S = (fs env S).bind fun ds S1 => F ds S1 := rfl
@[simp] theorem x_chain {p q : Int → Int → Bool} : fChain p q a b c env S = (a env S).bind fun x S1 => (b env S1).bind fun y S2 => match x, y with
  | .int i, .int j => bif p i j then (c env S2).bind fun z S3 => (match z with
      | .int k => .ok (.bl (q j k)) S3
      | _ => .bad) else .ok (.bl false) S2
  | _, _ => .bad := rfl
@[simp] theorem x_iSq : iSq a env S = (a env S).bind fun x S1 => match itemsD x with
  | some l => .ok l S1
  | none => .bad := rfl
@[simp] theorem x_iOf {k : List D → Option (List D)} : iOf k fs env S = (fs env S).bind fun xs S1 => match k xs with
  | some l => .ok l S1
  | none => .bad := rfl
@[simp] theorem x_tgName {i : Nat} {d : D} : tgName i d env = some (env.set i d) := rfl
@[simp] theorem x_for_ {g : D → En → Option En} : sFor fs g f env S = (fs env S).bindS fun l S1 => forL g f l env S1 := rfl
@[simp] theorem x_yes : tYesF env S = .ok true S := rfl
@[simp] theorem x_comp {m : Bool} {g : D → En → Option En} {vs : List Nat} : fComp m fs g ft a vs env S = (fs env S).bind fun l S1 => bif fit l.length then
  (match compL g ft a (undE env vs) l S1 with
  | .ok xs S2 => bif m then .ok (.loc S2.length) (S2 ++ [.lst xs]) else .ok (.lst xs) S2
  | _ => .bad) else .bad := rfl
@[simp] theorem x_und0 : undE env [] = env := rfl
@[simp] theorem x_und1 {v : Nat} {vs : List Nat} : undE env (v :: vs) = (undE env vs).set v .und := rfl
/-! the operations -/
@[simp] theorem x_add {m : Bool} {i j : Int} : oAdd m (.int i) (.int j) S = some (.int (i + j), S) := rfl
@[simp] theorem x_addI {i j : Int} : oAddI (.int i) (.int j) S = some (.int (i + j), S) := rfl
@[simp] theorem x_sub {i j : Int} : oSub (.int i) (.int j) S = some (.int (i - j), S) := rfl
theorem x_mul {m : Bool} {i j : Int} : oMul m (.int i) (.int j) S = bif mulOk i j then some (.int (i * j), S) else none := rfl
theorem x_mod {i j : Int} : oMod (.int i) (.int j) S = bif (decide (0 < j)) then some (.int (i % j), S) else none := rfl
theorem x_fdiv {i j : Int} : oFdiv (.int i) (.int j) S = bif (decide (0 < j)) && Nat.blt j.natAbs.log2 9000 then some (.int (i / j), S) else
      bif (decide (j < 0)) && Nat.blt j.natAbs.log2 9000 then some (.int (i.fdiv j), S) else none := rfl
@[simp] theorem x_neg {i : Int} : oNeg (.int i) S = some (.int (-i), S) := rfl
@[simp] theorem x_ixT {i : Int} {l : List D} : oIx (.tup l) (.int i) S = match ixD l i with
      | some d => some (d, S)
      | none => none := rfl
@[simp] theorem x_ixL {i : Int} {l : List D} : oIx (.lst l) (.int i) S = match ixD l i with
      | some d => some (d, S)
      | none => none := rfl
@[simp] theorem x_ixS {i : Int} {l : List D} : oIx (.scr l) (.int i) S = match ixD l i with
      | some d => some (d, S)
      | none => none := rfl
@[simp] theorem x_ix0 {l : List D} : ixD l 0 = l[0]? := rfl
@[simp] theorem x_ix1 {l : List D} : ixD l 1 = l[1]? := rfl
@[simp] theorem x_ix2 {l : List D} : ixD l 2 = l[2]? := rfl
@[simp] theorem x_ix3 {l : List D} : ixD l 3 = l[3]? := rfl
@[simp] theorem x_ix4 {l : List D} : ixD l 4 = l[4]? := rfl
@[simp] theorem x_gt {i j : Int} : oGt (.int i) (.int j) S = some (.bl (decide (j < i)), S) := rfl
@[simp] theorem x_ge {i j : Int} : oGe (.int i) (.int j) S = some (.bl (decide (j ≤ i)), S) := rfl
@[simp] theorem x_lt {i j : Int} : oLt (.int i) (.int j) S = some (.bl (decide (i < j)), S) := rfl
@[simp] theorem x_le {i j : Int} : oLe (.int i) (.int j) S = some (.bl (decide (i ≤ j)), S) := rfl
@[simp] theorem x_eqI {i j : Int} : oEq (.int i) (.int j) S = some (.bl (decide (i = j)), S) := rfl
@[simp] theorem x_neI {i j : Int} : oNe (.int i) (.int j) S = some (.bl (!decide (i = j)), S) := rfl
@[simp] theorem x_eqN {i : Int} : oEq (.int i) .non S = some (.bl false, S) := rfl
@[simp] theorem x_neN {i : Int} : oNe (.int i) .non S = some (.bl true, S) := rfl
@[simp] theorem x_eqN' {i : Int} : oEq .non (.int i) S = some (.bl false, S) := rfl
@[simp] theorem x_neN' {i : Int} : oNe .non (.int i) S = some (.bl true, S) := rfl
@[simp] theorem x_eqNN : oEq .non .non S = some (.bl true, S) := rfl
@[simp] theorem x_neNN : oNe .non .non S = some (.bl false, S) := rfl
@[simp] theorem x_isN {d : D} : oIs d .non S = some (.bl (isNon d), S) := rfl
@[simp] theorem x_isNN {d : D} : oIsN d .non S = some (.bl (!isNon d), S) := rfl
@[simp] theorem x_isB {a b : Bool} : oIs (.bl a) (.bl b) S = some (.bl (a == b), S) := rfl
@[simp] theorem x_isNB {a b : Bool} : oIsN (.bl a) (.bl b) S = some (.bl (!(a == b)), S) := rfl
@[simp] theorem x_isNon0 : isNon .non = true := rfl
@[simp] theorem x_isNonI {i : Int} : isNon (.int i) = false := rfl
@[simp] theorem x_isNonT {l : List D} : isNon (.tup l) = false := rfl
@[simp] theorem x_isNonL {l : List D} : isNon (.lst l) = false := rfl
@[simp] theorem x_lenT {l : List D} : oLen [.tup l] S = some (.int l.length, S) := rfl
@[simp] theorem x_lenL {l : List D} : oLen [.lst l] S = some (.int l.length, S) := rfl
@[simp] theorem x_lenS {l : List D} : oLen [.scr l] S = some (.int l.length, S) := rfl
@[simp] theorem x_tupT {l : List D} : oTuple [.tup l] S = some (.tup l, S) := rfl
@[simp] theorem x_tupL {l : List D} : oTuple [.lst l] S = some (.tup l, S) := rfl
@[simp] theorem x_itemsT {l : List D} : itemsD (.tup l) = some l := rfl
@[simp] theorem x_itemsL {l : List D} : itemsD (.lst l) = some l := rfl
@[simp] theorem x_itemsS {l : List D} : itemsD (.scr l) = some l := rfl
/-! functions -/
theorem fit_of {n : Nat} (h : n ≤ 16777216) : fit n = true := Nat.ble_eq_true_of_le h
/-- a function that made nothing new -/
theorem endF_same {d : D} : endF S.length d S = .ok d S := by unfold endF; rw [show Nat.beq S.length S.length = true from Nat.beq_refl _]; rfl
/-- a function without a store -/
theorem pure_eq {F : Fn} {ds : List D} {d : D} (hl : lowL 0 ds = true) (h : F ds [] = .ok d []) : pureF F ds S = .ok d S := by
  unfold pureF; rw [hl, h]; rfl
theorem lowL_map (f : α → D) (h : ∀ x, lowD 0 (f x) = true) : ∀ l : List α, lowL 0 (l.map f) = true
  | [] => rfl
  | x :: l => by
    rw [List.map_cons]; show (lowD 0 (f x) && lowL 0 (l.map f)) = true
    rw [h x, lowL_map f h l]; rfl
end
end Sf
end

section
set_option Elab.async false
set_option maxRecDepth 100000
set_option linter.all false
/-! Sq: trees of numbers; equality; items. -/
namespace Sf
open PySem PySem.Spec PyProof.Rows L2
/-! a tree of numbers, bools, None, tuples and lists -/
mutual
def pl : Nat → D → Bool
  | _, .non => true
  | _, .bl _ => true
  | _, .int _ => true
  | n + 1, .tup l => plL n l
  | n + 1, .lst l => plL n l
  | n + 1, .scr l => plL n l
  | _, _ => false
def plL : Nat → List D → Bool
  | _, [] => true
  | n, d :: ds => pl n d && plL n ds
end
mutual
theorem pl_ok : ∀ (n : Nat) (d : D), pl n d = true → ∃ p, D.py d = some p ∧ p.canLay0 = true ∧ p.depth ≤ n
  | n, .und, h => by cases n <;> cases h
  | n, .non, h => ⟨_, rfl, rfl, Nat.zero_le _⟩
  | n, .bl _, h => ⟨_, rfl, rfl, Nat.zero_le _⟩
  | n, .int _, h => ⟨_, rfl, rfl, Nat.zero_le _⟩
  | n, .str _, h => by cases n <;> cases h
  | 0, .tup l, h => by cases h
  | n + 1, .tup l, h => by
    obtain ⟨ps, h1, h2, h3⟩ := plL_ok n l h
    exact ⟨.tuple ps, by unfold D.py; rw [h1]; rfl, by unfold PyData.canLay0; exact h2, by unfold PyData.depth; omega⟩
  | 0, .lst l, h => by cases h
  | n + 1, .lst l, h => by
    obtain ⟨ps, h1, h2, h3⟩ := plL_ok n l h
    exact ⟨.list ps, by unfold D.py; rw [h1]; rfl, by unfold PyData.canLay0; exact h2, by unfold PyData.depth; omega⟩
  | 0, .scr l, h => by cases h
  | n + 1, .scr l, h => by
    obtain ⟨ps, h1, h2, h3⟩ := plL_ok n l h
    exact ⟨.list ps, by unfold D.py; rw [h1]; rfl, by unfold PyData.canLay0; exact h2, by unfold PyData.depth; omega⟩
  | n, .loc _, h => by cases n <;> cases h
  | n, .glob _, h => by cases n <;> cases h
theorem plL_ok : ∀ (n : Nat) (l : List D), plL n l = true → ∃ ps, D.pys l = some ps ∧ PyData.canLayAll0 ps = true ∧ PyData.depthAll ps ≤ n
  | n, [], _ => ⟨[], by simp [D.pys], rfl, Nat.zero_le _⟩
  | n, d :: l, h => by
    have h : pl n d = true ∧ plL n l = true := by
      have : (pl n d && plL n l) = true := by rw [← h]; cases n <;> simp [plL]
      simpa using this
    obtain ⟨p, h1, h2, h3⟩ := pl_ok n d h.1
    obtain ⟨ps, k1, k2, k3⟩ := plL_ok n l h.2
    exact ⟨p :: ps, by unfold D.pys; rw [h1, k1], by unfold PyData.canLayAll0; rw [h2, k2]; rfl, by unfold PyData.depthAll; omega⟩
end
theorem deref_pl {n : Nat} {d : D} {S : Sto} (h : pl n d = true) : deref S d = d := by
  cases d <;> first | rfl | (cases n <;> cases h)
theorem eqB_gen {x y : D} {S : Sto} {p q : PyData} (h1 : D.py (deref S x) = some p) (h2 : D.py (deref S y) = some q) (hp : SeqAt.shaped p = true) (hq : SeqAt.shaped q = true) : eqB x y S = some (PyData.eqv p q) := by
  unfold eqB
  split
  · cases h1; cases h2; simp [PyData.eqv, Bool.beq_eq_decide_eq]
  · cases h1; cases h2; simp [PyData.eqv]
  · cases h1; cases h2; simp [PyData.eqv]
  · cases h1; cases h2; simp [PyData.eqv]
  · cases h1; cases h2; simp [PyData.eqv]
  · cases h1; cases h2
    unfold PyData.eqv
    rename_i a b
    by_cases h : a = b
    · rw [decide_eq_true h, h]; simp
    · rw [decide_eq_false h]; simp [h]
  · rw [h1, h2]; simp only; rw [hp, hq]; rfl
theorem eqB_pl {n : Nat} {d e : D} {S : Sto} (h : pl n d = true) (h' : pl n e = true) (hn : n ≤ 64) : ∃ p q, D.py d = some p ∧ D.py e = some q ∧ p.canLay0 = true ∧ q.canLay0 = true ∧ eqB d e S = some (PyData.eqv p q) := by
  obtain ⟨p, h1, h2, h3⟩ := pl_ok n d h
  obtain ⟨q, k1, k2, k3⟩ := pl_ok n e h'
  exact ⟨p, q, h1, k1, h2, k2, eqB_gen (by rw [deref_pl h]; exact h1) (by rw [deref_pl h']; exact k1) (by unfold SeqAt.shaped; rw [h2]; simp; omega) (by unfold SeqAt.shaped; rw [k2]; simp; omega)⟩
theorem eqB_self {n : Nat} {d : D} {S : Sto} (h : pl n d = true) (hn : n ≤ 64) : eqB d d S = some true := by
  obtain ⟨p, q, h1, h2, h3, h4, e⟩ := eqB_pl (S := S) h h hn
  rw [h1] at h2; cases h2
  rw [e, SeqAt.eqv_refl p h3]
theorem oEq_self {n : Nat} {d : D} {S : Sto} (h : pl n d = true) (hn : n ≤ 64) : oEq d d S = some (.bl true, S) := by unfold oEq; rw [eqB_self h hn]
theorem oNe_self {n : Nat} {d : D} {S : Sto} (h : pl n d = true) (hn : n ≤ 64) : oNe d d S = some (.bl false, S) := by unfold oNe; rw [eqB_self h hn]; rfl
theorem plL_map {α : Type} {n : Nat} (f : α → D) (h : ∀ x, pl n (f x) = true) : ∀ l : List α, plL n (l.map f) = true
  | [] => by cases n <;> simp [plL]
  | x :: l => by
    have : plL n (f x :: l.map f) = (pl n (f x) && plL n (l.map f)) := by cases n <;> simp [plL]
    rw [List.map_cons, this, h x, plL_map f h l]; rfl
theorem pl_int {n : Nat} {i : Int} : pl n (.int i) = true := by cases n <;> simp [pl]
theorem pl_non {n : Nat} : pl n .non = true := by cases n <;> simp [pl]
theorem plL_ints {n : Nat} (l : List Int) : plL n (l.map D.int) = true := plL_map D.int (fun _ => pl_int) l
theorem pys_ints : ∀ l : List Int, D.pys (l.map D.int) = some (l.map PyData.int)
  | [] => by simp [D.pys]
  | i :: l => by
    rw [List.map_cons]; unfold D.pys; rw [pys_ints l]; rfl
theorem eqScr0 {l : List Int} {S : Sto} : oEq (.scr (l.map D.int)) (.lst []) S = some (.bl l.isEmpty, S) := by
  obtain ⟨p, q, h1, h2, h3, h4, e⟩ := eqB_pl (S := S) (n := 1) (d := .scr (l.map D.int)) (e := .lst []) (plL_ints l) rfl (by omega)
  unfold oEq
  rw [e]
  unfold D.py at h1 h2
  rw [pys_ints] at h1
  cases h1
  rw [show D.pys [] = some [] from by simp [D.pys]] at h2
  cases h2
  cases l <;> simp [PyData.eqv, PyData.eqvAll]
theorem intsD_ints : ∀ l : List Int, intsD (l.map D.int) = some l
  | [] => by simp [intsD]
  | i :: l => by rw [List.map_cons]; unfold intsD; rw [intsD_ints l]
theorem blsD_bls : ∀ l : List Bool, blsD (l.map D.bl) = some l
  | [] => by simp [blsD]
  | i :: l => by rw [List.map_cons]; unfold blsD; rw [blsD_bls l]
@[simp] theorem x_ixn20 : ixN 2 0 = some 0 := rfl
@[simp] theorem x_ixn21 : ixN 2 1 = some 1 := rfl
section
variable {S : Sto}
@[simp] theorem x_ixLoc {n : Nat} {i : Int} : oIx (.loc n) (.int i) S = match lsW (.loc n) S with
      | some l => (match ixD l i with
        | some d => some (d, S)
        | none => none)
      | none => none := rfl
@[simp] theorem x_lsWL {n : Nat} : lsW (.loc n) S = match S[n]? with
    | some (.lst l) => some l
    | _ => none := rfl
@[simp] theorem x_setO {n : Nat} {k : Int} {v : D} : setO (.loc n) (.int k) v S = match S[n]? with
    | some (.lst l) => (match ixN l.length k with
      | some j => some (S.set n (.lst (l.set j v)))
      | none => none)
    | _ => none := rfl
@[simp] theorem x_mkF {l : List D} : mkL false l S = bif fit l.length then some (.lst l, S) else none := rfl
@[simp] theorem x_mkT {l : List D} : mkL true l S = bif fit l.length then some (.loc S.length, S ++ [.lst l]) else none := rfl
@[simp] theorem x_fit0 : fit 0 = true := rfl
@[simp] theorem x_fit1 : fit 1 = true := rfl
@[simp] theorem x_fit2 : fit 2 = true := rfl
@[simp] theorem x_fit3 : fit 3 = true := rfl
@[simp] theorem x_fit4 : fit 4 = true := rfl
@[simp] theorem x_fit5 : fit 5 = true := rfl
@[simp] theorem x_fit6 : fit 6 = true := rfl
@[simp] theorem x_fit7 : fit 7 = true := rfl
@[simp] theorem x_fit8 : fit 8 = true := rfl
@[simp] theorem x_fit9 : fit 9 = true := rfl
@[simp] theorem x_fit10 : fit 10 = true := rfl
@[simp] theorem x_fit11 : fit 11 = true := rfl
@[simp] theorem x_fit12 : fit 12 = true := rfl
@[simp] theorem x_tupLoc {n : Nat} : oTuple [.loc n] S = match lsW (.loc n) S with
    | some l => some (.tup l, S)
    | none => none := rfl
def forK (g : D → En → Option En) (b : FS) (r : List D) : SR → SR
      | .nx env' S' => forL g b r env' S'
      | .ct env' S' => forL g b r env' S'
      | .bk env' S' => .nx env' S'
      | r => r
theorem forL_cons {g : D → En → Option En} {b : FS} {d : D} {r : List D} {env env1 : En} (h : g d env = some env1) : forL g b (d :: r) env S = forK g b r (b env1 S) := by
  show (match g d env with
    | none => SR.bad
    | some env1 => forK g b r (b env1 S)) = _
  rw [h]
theorem enumL_cons {k : Nat} {d : D} {l : List D} : enumL k (d :: l) = .tup [.int k, d] :: enumL (k + 1) l := rfl
theorem end_rt {d : D} {n : Nat} (h : S.length = n) : fnEnd false n (.rt d S) = .ok d S := by subst h; exact endF_same
theorem ix_nn {l : List D} {i : Int} (h : 0 ≤ i) : ixD l i = l[i.toNat]? := by unfold ixD; rw [decide_eq_true h]; rfl
theorem ix_int {l : List Int} {i : Int} (h : 0 ≤ i) (h' : i < l.length) : ∃ k, l[i.toNat]? = some k ∧ ixD (l.map D.int) i = some (.int k) := by
  refine ⟨l[i.toNat]'(by omega), List.getElem?_eq_getElem _, ?_⟩
  rw [ix_nn h, List.getElem?_map, List.getElem?_eq_getElem (show i.toNat < l.length by omega)]; rfl
theorem mul_r {m : Bool} {i j : Int} (h : Nat.blt j.natAbs 18446744073709551616 = true) : oMul m (.int i) (.int j) S = some (.int (i * j), S) := by
  rw [x_mul]; unfold mulOk; rw [h]; simp
theorem mul_l {m : Bool} {i j : Int} (h : Nat.blt i.natAbs 18446744073709551616 = true) : oMul m (.int i) (.int j) S = some (.int (i * j), S) := by
  rw [x_mul]; unfold mulOk; rw [h]; simp
theorem mod_ok {i j : Int} (h : 0 < j) : oMod (.int i) (.int j) S = some (.int (i % j), S) := by rw [x_mod, decide_eq_true h]; rfl
theorem log_small {j : Int} (h : 0 < j) (h' : j < 1000000) : Nat.blt j.natAbs.log2 9000 = true := by
  have : j.natAbs.log2 < 20 := by rw [Nat.log2_lt (by omega)]; omega
  exact Nat.ble_eq_true_of_le (by omega)
theorem fdiv_ok {i j : Int} (h : 0 < j) (h' : j < 1000000) : oFdiv (.int i) (.int j) S = some (.int (i / j), S) := by
  rw [x_fdiv, decide_eq_true h, log_small h h']; rfl
end
mutual
theorem frz_pl {S : Sto} {m : Nat} : ∀ (d : D) (n k : Nat), pl n d = true → n < k → frzD k S m d = some d
  | .und, n, k, h, _ => by cases n <;> cases h
  | .non, n, k + 1, h, _ => rfl
  | .bl _, n, k + 1, h, _ => rfl
  | .int _, n, k + 1, h, _ => rfl
  | .str _, n, k, h, _ => by cases n <;> cases h
  | .tup l, 0, k, h, _ => by cases h
  | .lst l, 0, k, h, _ => by cases h
  | .scr l, 0, k, h, _ => by cases h
  | .tup l, n + 1, k + 1, h, hk => by
    show (mapO (frzD k S m) l).map D.tup = _
    rw [frz_plL l n k h (by omega)]; rfl
  | .lst l, n + 1, k + 1, h, hk => by
    show (mapO (frzD k S m) l).map D.lst = _
    rw [frz_plL l n k h (by omega)]; rfl
  | .scr l, n + 1, k + 1, h, hk => by
    show (mapO (frzD k S m) l).map D.scr = _
    rw [frz_plL l n k h (by omega)]; rfl
  | .loc _, n, k, h, _ => by cases n <;> cases h
  | .glob _, n, k, h, _ => by cases n <;> cases h
theorem frz_plL {S : Sto} {m : Nat} : ∀ (l : List D) (n k : Nat), plL n l = true → n < k → mapO (frzD k S m) l = some l
  | [], n, k, h, _ => rfl
  | d :: l, n, k, h, hk => by
    have h : pl n d = true ∧ plL n l = true := by
      have : (pl n d && plL n l) = true := by rw [← h]; cases n <;> simp [plL]
      simpa using this
    show (match frzD k S m d, mapO (frzD k S m) l with
    | some x, some xs => some (x :: xs)
    | _, _ => none) = _
    rw [frz_pl d n k h.1 hk, frz_plL l n k h.2 hk]
end
theorem end_pl {n : Nat} {d : D} {S : Sto} (h : pl n d = true) (hn : n < 9) : fnEnd false 0 (.rt d S) = .ok d [] := by
  show endF 0 d S = _
  unfold endF
  cases S with
  | nil => rfl
  | cons a S =>
    rw [frz_pl d n 9 h hn]; rfl
theorem plL_cons {n : Nat} {d : D} {l : List D} : plL n (d :: l) = (pl n d && plL n l) := by cases n <;> simp [plL]
theorem plL_nil {n : Nat} : plL n [] = true := by cases n <;> simp [plL]
end Sf
end

section
set_option Elab.async false
set_option maxRecDepth 100000
set_option linter.all false
/-! Sx: facts of closed runs, by the kernel. -/
namespace Sf
open PySem PySem.Spec PyProof.Rows L2
mutual
def dEq : D → D → Bool
  | .non, .non => true
  | .bl a, .bl b => a == b
  | .int a, .int b => decide (a = b)
  | .str a, .str b => decide (a = b)
  | .tup a, .tup b => dEqs a b
  | .lst a, .lst b => dEqs a b
  | _, _ => false
def dEqs : List D → List D → Bool
  | [], [] => true
  | a :: as, b :: bs => dEq a b && dEqs as bs
  | _, _ => false
end
mutual
theorem dEq_ok : ∀ (a b : D), dEq a b = true → a = b
  | .non, b, h => by cases b <;> first | rfl | (simp [dEq] at h)
  | .bl a, b, h => by cases b <;> first | (simp [dEq] at h; rw [h]) | (simp [dEq] at h)
  | .int a, b, h => by cases b <;> first | (simp [dEq] at h; rw [h]) | (simp [dEq] at h)
  | .str a, b, h => by cases b <;> first | (simp [dEq] at h; rw [h]) | (simp [dEq] at h)
  | .tup a, b, h => by
    cases b with
    | tup b => simp only [dEq] at h; rw [dEqs_ok a b h]
    | _ => simp [dEq] at h
  | .lst a, b, h => by
    cases b with
    | lst b => simp only [dEq] at h; rw [dEqs_ok a b h]
    | _ => simp [dEq] at h
  | .und, b, h => by cases b <;> simp [dEq] at h
  | .scr _, b, h => by cases b <;> simp [dEq] at h
  | .loc _, b, h => by cases b <;> simp [dEq] at h
  | .glob _, b, h => by cases b <;> simp [dEq] at h
theorem dEqs_ok : ∀ (a b : List D), dEqs a b = true → a = b
  | [], [], _ => rfl
  | [], _ :: _, h => by simp [dEqs] at h
  | _ :: _, [], h => by simp [dEqs] at h
  | a :: as, b :: bs, h => by
    simp only [dEqs, Bool.and_eq_true] at h
    rw [dEq_ok a b h.1, dEqs_ok as bs h.2]
end
def chk (r : Out D) (d : D) : Bool := match r with
  | .ok e [] => dEq e d
  | _ => false
theorem chk_ok {r : Out D} {d : D} (h : chk r d = true) : r = .ok d [] := by
  unfold chk at h
  cases r with
  | ok e S =>
    cases S with
    | nil => rw [dEq_ok e d h]
    | cons => cases h
  | exc => cases h
  | bad => cases h
/-- a closed run -/
theorem pure_chk {F : Fn} {ds : List D} {d : D} {S : Sto} (h : (lowL 0 ds && chk (F ds []) d) = true) : pureF F ds S = .ok d S := by
  rw [Bool.and_eq_true] at h
  exact pure_eq h.1 (chk_ok h.2)
end Sf
end

section
set_option Elab.async false
set_option maxRecDepth 100000
/-! the defs as terms -/
namespace Sf
open PySem L2
def b_is_count : FS := sRet (fAnd (fOpN oIsa (fCons (fVar 0) (fCons (fCon (.glob (.ty "int"))) (fNil)))) (fAnd (fNot (fOpN oIsa (fCons (fVar 0) (fCons (fCon (.glob (.ty "bool"))) (fNil))))) (fChain (fun i j => decide (i ≤ j)) (fun i j => decide (i ≤ j)) (fVar 1) (fVar 0) (fVar 2))))
def f_is_count : Fn := fn false 3 b_is_count
def b_round_winner : FS := sSeq (sAsgT [2, 3, 4] (fVar 0))
    (sSeq (sAsg 5 (fIf (tVal (fOp2 oGt (fOp2 oIx (fVar 1) (fCon (.int 0))) (fOp2 oIx (fVar 1) (fCon (.int 1))))) (fCon (.int 0)) (fCon (.int 1))))
    (sSeq (sIf (Sf.tOr (Sf.tAnd (tVal (fOp2 oGe (fOp2 oIx (fVar 1) (fVar 5)) (fVar 2))) (tVal (fOp2 oGe (fOp2 (oSub) (fOp2 oIx (fVar 1) (fVar 5)) (fOp2 oIx (fVar 1) (fOp2 (oSub) (fCon (.int 1)) (fVar 5)))) (fVar 3)))) (tVal (fOp2 oEq (fOp2 oIx (fVar 1) (fVar 5)) (fVar 4)))) (sRet (fVar 5)) (sSkip))
    (sRet (fCon .non))))
def f_round_winner : Fn := fn false 6 b_round_winner
def b_start_of : FS := sRet (fOp2 (oMul false) (fTup (fCons (fTup (fCons (fCon (.int 0)) (fCons (fCon (.int 0)) (fNil)))) (fNil))) (fOpN oLen (fCons (fVar 0) (fNil))))
def f_start_of : Fn := fn false 1 b_start_of
def b_plus : FS := sRet (fIf (tVal (fOp2 oEq (fVar 1) (fCon (.int 0)))) (fTup (fCons (fOp2 (oAdd false) (fOp2 oIx (fVar 0) (fCon (.int 0))) (fCon (.int 1))) (fCons (fOp2 oIx (fVar 0) (fCon (.int 1))) (fNil)))) (fTup (fCons (fOp2 oIx (fVar 0) (fCon (.int 0))) (fCons (fOp2 (oAdd false) (fOp2 oIx (fVar 0) (fCon (.int 1))) (fCon (.int 1))) (fNil)))))
def f_plus : Fn := fn false 2 b_plus
def b_settled : FS := sSeq (sAsg 2 (fLst true (fNil)))
    (sSeq (sFor (iOf kZip (fCons (fVar 0) (fCons (fVar 1) (fNil)))) (unTup [3, 4]) (sSeq (sAsg 5 (fIf (tVal (fOp2 oIs (fOp2 oIx (fVar 3) (fCon (.int 2))) (fCon .non))) (fOp2 (oAdd false) (fOp2 (oSub) (fOpN oMin (fCons (fVar 4) (fNil))) (fOp2 oIx (fVar 3) (fCon (.int 0)))) (fCon (.int 1))) (fCon (.int 0))))
    (sExpr (fMethL mAppend (fVar 2) (fCons (fIf (tVal (fOp2 oGt (fVar 5) (fCon (.int 0)))) (fTup (fCons (fOp2 (oSub) (fOp2 oIx (fVar 4) (fCon (.int 0))) (fVar 5)) (fCons (fOp2 (oSub) (fOp2 oIx (fVar 4) (fCon (.int 1))) (fVar 5)) (fNil)))) (fVar 4)) (fNil))))))
    (sRet (fOpN (oTuple) (fCons (fVar 2) (fNil)))))
def f_settled : Fn := fn false 6 b_settled
def b_row_to : FS := sSeq (sAsg 2 (fLst true (fNil)))
    (sSeq (whileL (tVal (fOp2 oIsN (fOp2 oGetX (fVar 0) (fVar 1)) (fCon .non))) (sSeq (sAsgT [1, 3] (fOp2 oGetX (fVar 0) (fVar 1)))
    (sExpr (fMethL mAppend (fVar 2) (fCons (fVar 3) (fNil))))) 20000000)
    (sRet (fOp1 (oRev false) (fVar 2))))
def f_row_to : Fn := fn false 4 b_row_to
def b_lowest : FS := sSeq (sPar2 2 3 (fCons (fOpN oAbs (fCons (fVar 0) (fNil))) (fCons (fOpN oAbs (fCons (fVar 1) (fNil))) (fNil))))
    (sSeq (whileL (tVal (fOp2 oGt (fVar 3) (fCon (.int 0)))) (sPar2 2 3 (fCons (fVar 3) (fCons (fOp2 (oMod) (fVar 2) (fVar 3)) (fNil)))) 100000)
    (sSeq (sAsg 2 (fIf (tVal (fOp2 oLt (fVar 1) (fCon (.int 0)))) (fOp1 oNeg (fVar 2)) (fVar 2)))
    (sRet (fTup (fCons (fOp2 (oFdiv) (fVar 0) (fVar 2)) (fCons (fOp2 (oFdiv) (fVar 1) (fVar 2)) (fNil)))))))
def f_lowest : Fn := fn false 4 b_lowest
def b_power : FS := sSeq (sAsg 2 (fCon (.int 1)))
    (sSeq (sFor (iOf kRng1 (fCons (fVar 1) (fNil))) (tgName 3) (sAug 2 oMulI (fVar 0)))
    (sRet (fVar 2)))
def f_power : Fn := fn false 4 b_power
def b_least_units : FS := sSeq (sAsgT [1, 2, 3] (fVar 0))
    (sRet (fIf (tVal (fOp2 oIs (fVar 3) (fCon .non))) (fOpN oMax2 (fCons (fVar 1) (fCons (fVar 2) (fNil)))) (fOpN oMin2 (fCons (fOpN oMax2 (fCons (fVar 1) (fCons (fVar 2) (fNil)))) (fCons (fVar 3) (fNil))))))
def f_least_units : Fn := fn false 4 b_least_units
def b__law_draw : FS := sSeq (sIf (tVal (fOp2 oGt (fOp2 oIx (fVar 1) (fCon (.int 1))) (fCon (.int 0)))) (sSeq (sAsg 3 (fOp2 (oMod) (fOp2 oIx (fVar 1) (fCon (.int 1))) (fVar 2)))
    (sSeq (sAsgIx (fOp2 (oFdiv) (fOp2 oIx (fVar 1) (fCon (.int 1))) (fVar 2)) (fVar 1) (fCon (.int 1)))
    (sRet (fVar 3)))) (sSkip))
    (sSeq (sAsg 4 (fOp2 oIx (fVar 1) (fCon (.int 0))))
    (sSeq (sAugIx oAddI (fVar 1) (fCon (.int 0)) (fCon (.int 1)))
    (sSeq (sIf (tVal (fOp2 oEq (fVar 0) (fLst false (fNil)))) (sRet (fOp2 (oMod) (fVar 4) (fVar 2))) (sSkip))
    (sSeq (sIf (Sf.tAnd (tVal (fOp2 oLt (fVar 4) (fOpN oLen (fCons (fVar 0) (fNil))))) (tVal (fOp2 oGe (fOp2 oIx (fVar 0) (fVar 4)) (fOp2 (oPow) (fCon (.int 10)) (fCon (.int 18)))))) (sSeq (sAsgIx (fOp2 (oMod) (fOp2 (oFdiv) (fOp2 oIx (fVar 0) (fVar 4)) (fVar 2)) (fOp2 (oMul false) (fOp2 (oPow) (fCon (.int 10)) (fCon (.int 60))) (fOp2 (oPow) (fCon (.int 10)) (fCon (.int 60))))) (fVar 1) (fCon (.int 1)))
    (sRet (fOp2 (oMod) (fOp2 oIx (fVar 0) (fVar 4)) (fVar 2)))) (sSkip))
    (sSeq (sAsg 5 (fOp2 (oMod) (fOp2 (oAdd false) (fOp2 (oAdd false) (fOp2 (oMul false) (fOp2 oIx (fVar 0) (fOp2 (oMod) (fVar 4) (fOpN oLen (fCons (fVar 0) (fNil))))) (fCon (.int 1103515245))) (fOp2 (oMul false) (fCon (.int 7919)) (fVar 4))) (fCon (.int 12345))) (fCon (.int 2147483647))))
    (sRet (fOp2 (oMod) (fOp2 (oMod) (fOp2 (oMod) (fOp2 (oPow) (fVar 5) (fCon (.int 5))) (fCon (.int 2147483647))) (fCon (.int 999983))) (fVar 2))))))))
def f__law_draw : Fn := fn false 6 b__law_draw
def b_is_level : FS := sSeq (sIf (Sf.tOr (tNot (tVal (fOpN oIsa (fCons (fVar 0) (fCons (fCon (.glob (.ty "tuple"))) (fNil)))))) (Sf.tOr (tVal (fOp2 oNe (fOpN oLen (fCons (fVar 0) (fNil))) (fCon (.int 3)))) (tNot (tVal (fCall (pureF f_is_count) (fCons (fOp2 oIx (fVar 0) (fCon (.int 0))) (fCons (fCon (.int 1)) (fCons (fCon (.int 5)) (fNil))))))))) (sRet (fCon (.bl false))) (sSkip))
    (sRet (fAnd (fCall (pureF f_is_count) (fCons (fOp2 oIx (fVar 0) (fCon (.int 1))) (fCons (fCon (.int 1)) (fCons (fCon (.int 3)) (fNil))))) (fOr (fOp2 oIs (fOp2 oIx (fVar 0) (fCon (.int 2))) (fCon .non)) (fCall (pureF f_is_count) (fCons (fOp2 oIx (fVar 0) (fCon (.int 2))) (fCons (fOp2 oIx (fVar 0) (fCon (.int 0))) (fCons (fCon (.int 9)) (fNil))))))))
def f_is_level : Fn := fn false 1 b_is_level
def b_after : FS := sSeq (sAsg 3 (fOpN (oList true) (fCons (fVar 1) (fNil))))
    (sSeq (sFor (iOf kEnum (fCons (fVar 0) (fNil))) (unTup [4, 5]) (sSeq (sAsgIx (fCall (pureF f_plus) (fCons (fOp2 oIx (fVar 3) (fVar 4)) (fCons (fVar 2) (fNil)))) (fVar 3) (fVar 4))
    (sSeq (sAsg 6 (fCall (pureF f_round_winner) (fCons (fVar 5) (fCons (fOp2 oIx (fVar 3) (fVar 4)) (fNil)))))
    (sSeq (sIf (tVal (fOp2 oIs (fVar 6) (fCon .non))) (sBreak) (sSkip))
    (sSeq (sIf (tVal (fOp2 oEq (fOp2 (oAdd false) (fVar 4) (fCon (.int 1))) (fOpN oLen (fCons (fVar 0) (fNil))))) (sRet (fTup (fCons (fOpN (oTuple) (fCons (fVar 3) (fNil))) (fCons (fVar 6) (fNil))))) (sSkip))
    (sAsgIx (fTup (fCons (fCon (.int 0)) (fCons (fCon (.int 0)) (fNil)))) (fVar 3) (fVar 4)))))))
    (sRet (fTup (fCons (fOpN (oTuple) (fCons (fVar 3) (fNil))) (fCons (fCon .non) (fNil))))))
def f_after : Fn := fn false 7 b_after
def b_times : FS := sRet (fCall (pureF f_lowest) (fCons (fOp2 (oMul false) (fOp2 oIx (fVar 0) (fCon (.int 0))) (fOp2 oIx (fVar 1) (fCon (.int 0)))) (fCons (fOp2 (oMul false) (fOp2 oIx (fVar 0) (fCon (.int 1))) (fOp2 oIx (fVar 1) (fCon (.int 1)))) (fNil))))
def f_times : Fn := fn false 2 b_times
def b_added : FS := sRet (fCall (pureF f_lowest) (fCons (fOp2 (oAdd false) (fOp2 (oMul false) (fOp2 oIx (fVar 0) (fCon (.int 0))) (fOp2 oIx (fVar 1) (fCon (.int 1)))) (fOp2 (oMul false) (fOp2 oIx (fVar 1) (fCon (.int 0))) (fOp2 oIx (fVar 0) (fCon (.int 1))))) (fCons (fOp2 (oMul false) (fOp2 oIx (fVar 0) (fCon (.int 1))) (fOp2 oIx (fVar 1) (fCon (.int 1)))) (fNil))))
def f_added : Fn := fn false 2 b_added
def b_ends_of : FS := sSeq (sPar2 1 2 (fCons (fDct1 (fTup (fCons (fCon (.int 0)) (fCons (fCon (.int 0)) (fNil)))) (fCon (.int 1))) (fCons (fDct0) (fNil))))
    (sSeq (whileL (tVal (fNeE (fVar 1))) (sSeq (sAsg 3 (fDct0))
    (sSeq (sLock 1 (sFor (iKeysD (fVar 1)) (tgName 4) (sFor (iSq (fTup (fCons (fCon (.int 0)) (fCons (fCon (.int 1)) (fNil))))) (tgName 5) (sSeq (sAsg 6 (fCall (pureF f_plus) (fCons (fVar 4) (fCons (fVar 5) (fNil)))))
    (sSeq (sAsg 7 (fOr (fOp2 oIsN (fCall (pureF f_round_winner) (fCons (fVar 0) (fCons (fVar 6) (fNil)))) (fCon .non)) (fAnd (fOp2 oIs (fOp2 oIx (fVar 0) (fCon (.int 2))) (fCon .non)) (fOp2 oGe (fOpN oMin (fCons (fVar 6) (fNil))) (fOp2 oIx (fVar 0) (fCon (.int 0)))))))
    (sSeq (sAsg 8 (fIf (tVal (fVar 7)) (fVar 2) (fVar 3)))
    (sAsgX (fOp2 (oAdd false) (fGetX (fVar 8) (fVar 6) (fCon (.int 0))) (fOp2 oGetX (fVar 1) (fVar 4))) (fVar 8) (fVar 6))))))))
    (sAsg 1 (fVar 3)))) 100000)
    (sRet (fVar 2)))
def f_ends_of : Fn := fn true 9 b_ends_of
def b_need_chance : FS := sSeq (sIf (Sf.tOr (tNot (tVal (fOpN oIsa (fCons (fVar 0) (fCons (fCon (.glob (.ty "tuple"))) (fNil)))))) (Sf.tOr (tVal (fOp2 oNe (fOpN oLen (fCons (fVar 0) (fNil))) (fCon (.int 2)))) (tNot (tVal (fCall (pureF f_is_count) (fCons (fOp2 oIx (fVar 0) (fCon (.int 1))) (fCons (fCon (.int 1)) (fCons (fCon (.int 1000)) (fNil))))))))) (sBad) (sSkip))
    (sIf (tNot (tVal (fCall (pureF f_is_count) (fCons (fOp2 oIx (fVar 0) (fCon (.int 0))) (fCons (fCon (.int 0)) (fCons (fOp2 oIx (fVar 0) (fCon (.int 1))) (fNil))))))) (sBad) (sSkip))
def f_need_chance : Fn := fn false 1 b_need_chance
def b_rounds : FS := sSeq (sAsg 1 (fIf (tVal (fOp2 oIs (fOp2 oIx (fVar 0) (fCon (.int 2))) (fCon .non))) (fOp2 (oAdd false) (fOp2 oIx (fVar 0) (fCon (.int 0))) (fOp2 oIx (fVar 0) (fCon (.int 1)))) (fOp2 oIx (fVar 0) (fCon (.int 2)))))
    (sSeq (sPar2 2 3 (fCons (fDct1 (fTup (fCons (fCon (.int 0)) (fCons (fCon (.int 0)) (fNil)))) (fLst false (fNil))) (fCons (fLst true (fCons (fTup (fCons (fCon (.int 0)) (fCons (fCon (.int 0)) (fNil)))) (fNil))) (fNil))))
    (sSeq (sAsg 4 (fLst true (fNil)))
    (sSeq (sFor (iOf kRng1 (fCons (fOp2 (oMul false) (fOp2 (oAdd false) (fVar 1) (fCon (.int 2))) (fOp2 (oAdd false) (fVar 1) (fCon (.int 2)))) (fNil))) (tgName 5) (sSeq (sIf (tVal (fOp2 oEq (fVar 5) (fOpN oLen (fCons (fVar 3) (fNil))))) (sBreak) (sSkip))
    (sSeq (sAsg 6 (fOp2 oIx (fVar 3) (fVar 5)))
    (sFor (iSq (fTup (fCons (fCon (.int 0)) (fCons (fCon (.int 1)) (fNil))))) (tgName 7) (sSeq (sAsg 8 (fCall (pureF f_plus) (fCons (fVar 6) (fCons (fVar 7) (fNil)))))
    (sIf (Sf.tAnd (tVal (fOp2 oLe (fOpN oMax (fCons (fVar 8) (fNil))) (fVar 1))) (tVal (fOp2 oNinX (fVar 8) (fVar 2)))) (sSeq (sAsgX (fOp2 (oAdd false) (fOp2 oGetX (fVar 2) (fVar 6)) (fLst false (fCons (fVar 7) (fNil)))) (fVar 2) (fVar 8))
    (sIf (tVal (fOp2 oIs (fCall (pureF f_round_winner) (fCons (fVar 0) (fCons (fVar 8) (fNil)))) (fCon .non))) (sExpr (fMethL mAppend (fVar 3) (fCons (fVar 8) (fNil)))) (sExpr (fMethL mAppend (fVar 4) (fCons (fOp2 oGetX (fVar 2) (fVar 8)) (fNil)))))) (sSkip)))))))
    (sRet (fVar 4)))))
def f_rounds : Fn := fn false 9 b_rounds
def b__law_pick : FS := sRet (fOp2 oIx (fVar 2) (fCall f__law_draw (fCons (fVar 0) (fCons (fVar 1) (fCons (fOpN oLen (fCons (fVar 2) (fNil))) (fNil))))))
def f__law_pick : Fn := fn false 3 b__law_pick
def b_is_form : FS := sRet (fAnd (fOpN oIsa (fCons (fVar 0) (fCons (fCon (.glob (.ty "tuple"))) (fNil)))) (fAnd (fChain (fun i j => decide (i ≤ j)) (fun i j => decide (i ≤ j)) (fCon (.int 1)) (fOpN oLen (fCons (fVar 0) (fNil))) (fCon (.int 3))) (fOpN oAll (fCons (fComp false (iSq (fVar 0)) (tgName 1) (tYesF) (fCall (pureF f_is_level) (fCons (fVar 1) (fNil))) [1]) (fNil)))))
def f_is_form : Fn := fn false 2 b_is_form
def b_walk : FS := sSeq (sPar2 3 4 (fCons (fOp2 oIx (fVar 0) (fCon (.int 0))) (fCons (fOp2 (oSub) (fOp2 oIx (fVar 0) (fCon (.int 1))) (fOp2 oIx (fVar 0) (fCon (.int 0)))) (fNil))))
    (sSeq (sPar2 5 6 (fCons (fOp2 (oAdd false) (fVar 1) (fVar 2)) (fCons (fOp2 (oSub) (fVar 1) (fVar 2)) (fNil))))
    (sSeq (sIf (tVal (fOp2 oEq (fVar 3) (fVar 4))) (sRet (fTup (fCons (fCall (pureF f_lowest) (fCons (fVar 5) (fCons (fOp2 (oMul false) (fCon (.int 2)) (fVar 1)) (fNil)))) (fCons (fTup (fCons (fOp2 (oMul false) (fVar 5) (fVar 6)) (fCons (fCon (.int 1)) (fNil)))) (fNil))))) (sSkip))
    (sSeq (sAsg 7 (fOp2 (oMul false) (fCall (pureF f_power) (fCons (fVar 3) (fCons (fVar 6) (fNil)))) (fOp2 (oSub) (fCall (pureF f_power) (fCons (fVar 3) (fCons (fVar 5) (fNil)))) (fCall (pureF f_power) (fCons (fVar 4) (fCons (fVar 5) (fNil)))))))
    (sSeq (sAsg 8 (fOp2 (oSub) (fCall (pureF f_power) (fCons (fVar 3) (fCons (fOp2 (oMul false) (fCon (.int 2)) (fVar 1)) (fNil)))) (fCall (pureF f_power) (fCons (fVar 4) (fCons (fOp2 (oMul false) (fCon (.int 2)) (fVar 1)) (fNil))))))
    (sSeq (sAsg 9 (fCall (pureF f_lowest) (fCons (fVar 7) (fCons (fVar 8) (fNil)))))
    (sSeq (sAsg 10 (fCall (pureF f_added) (fCons (fTup (fCons (fOp2 (oMul false) (fOp2 (oMul false) (fCon (.int 2)) (fVar 1)) (fOp2 oIx (fVar 9) (fCon (.int 0)))) (fCons (fOp2 oIx (fVar 9) (fCon (.int 1))) (fNil)))) (fCons (fTup (fCons (fOp1 oNeg (fVar 5)) (fCons (fCon (.int 1)) (fNil)))) (fNil)))))
    (sRet (fTup (fCons (fVar 9) (fCons (fCall (pureF f_times) (fCons (fVar 10) (fCons (fCall (pureF f_lowest) (fCons (fOp2 oIx (fVar 0) (fCon (.int 1))) (fCons (fOp2 (oSub) (fVar 3) (fVar 4)) (fNil)))) (fNil)))) (fNil)))))))))))
def f_walk : Fn := fn false 11 b_walk
def b_most_units : FS := sSeq (sIf (Sf.tAnd (tVal (fOp2 oIs (fOp2 oIx (fVar 0) (fCon (.int 2))) (fCon .non))) (tVal (fOp2 oGt (fOp2 oIx (fVar 0) (fCon (.int 1))) (fCon (.int 1))))) (sRet (fCon .non)) (sSkip))
    (sRet (fOpN oMax (fCons (fComp false (iSq (fCall (pureF f_rounds) (fCons (fVar 0) (fNil)))) (tgName 1) (tYesF) (fOpN oLen (fCons (fVar 1) (fNil))) [1]) (fNil))))
def f_most_units : Fn := fn false 2 b_most_units
def b_best_row : FS := sSeq (sAsg 3 (fCon .non))
    (sSeq (sFor (iSq (fCall (pureF f_rounds) (fCons (fVar 0) (fNil)))) (tgName 4) (sIf (tVal (fOp2 oEq (fCall (pureF f_round_winner) (fCons (fVar 0) (fCons (fTup (fCons (fMethL mCount (fVar 4) (fCons (fCon (.int 0)) (fNil))) (fCons (fMethL mCount (fVar 4) (fCons (fCon (.int 1)) (fNil))) (fNil)))) (fNil)))) (fIf (tVal (fVar 1)) (fCon (.int 0)) (fCon (.int 1))))) (sSeq (sAsg 5 (fOpN oSum (fCons (fComp false (iSq (fVar 4)) (tgName 7) (tYesF) (fOp2 oIx (fOp2 oIx (fVar 2) (fVar 7)) (fCon (.int 0))) [7]) (fNil))))
    (sSeq (sAsg 6 (fOpN oSum (fCons (fComp false (iSq (fVar 4)) (tgName 7) (tYesF) (fOp2 oIx (fOp2 oIx (fVar 2) (fVar 7)) (fCon (.int 1))) [7]) (fNil))))
    (sIf (Sf.tOr (tVal (fOp2 oIs (fVar 3) (fCon .non))) (tVal (fOp2 oLt (fTup (fCons (fOp1 oNeg (fVar 5)) (fCons (fVar 6) (fNil)))) (fCut false (fVar 3) (fNoPart) (fPart (fCon (.int 2))))))) (sAsg 3 (fTup (fCons (fOp1 oNeg (fVar 5)) (fCons (fVar 6) (fCons (fVar 4) (fNil)))))) (sSkip)))) (sSkip)))
    (sRet (fTup (fCons (fOp1 oNeg (fOp2 oIx (fVar 3) (fCon (.int 0)))) (fCons (fOp2 oIx (fVar 3) (fCon (.int 1))) (fCons (fOp2 oIx (fVar 3) (fCon (.int 2))) (fNil)))))))
def f_best_row : Fn := fn false 8 b_best_row
def b__law_level : FS := sSeq (sAsg 3 (fOp2 (oAdd false) (fCon (.int 1)) (fCall f__law_draw (fCons (fVar 0) (fCons (fVar 1) (fCons (fVar 2) (fNil)))))))
    (sSeq (sAsg 4 (fCall f__law_pick (fCons (fVar 0) (fCons (fVar 1) (fCons (fLst false (fCons (fCon .non) (fCons (fCon .non) (fCons (fVar 3) (fCons (fOp2 (oAdd false) (fVar 3) (fCon (.int 1))) (fCons (fOp2 (oAdd false) (fVar 3) (fCon (.int 3))) (fNil))))))) (fNil))))))
    (sRet (fTup (fCons (fVar 3) (fCons (fOp2 (oAdd false) (fCon (.int 1)) (fCall f__law_draw (fCons (fVar 0) (fCons (fVar 1) (fCons (fCon (.int 3)) (fNil)))))) (fCons (fVar 4) (fNil)))))))
def f__law_level : Fn := fn false 5 b__law_level
def b__law_written : FS := sSeq (sAsgT [3, 4, 5] (fVar 2))
    (sSeq (sIf (tVal (fOp2 oEq (fVar 4) (fCon (.int 1)))) (sRet (fTup (fCons (fVar 3) (fCons (fCon (.int 1)) (fCons (fCall f__law_pick (fCons (fVar 0) (fCons (fVar 1) (fCons (fLst false (fCons (fCon .non) (fCons (fVar 3) (fCons (fOp2 (oAdd false) (fVar 3) (fCon (.int 2))) (fCons (fCon (.int 9)) (fNil)))))) (fNil))))) (fNil)))))) (sSkip))
    (sSeq (sIf (tVal (fOp2 oEq (fVar 5) (fVar 3))) (sRet (fTup (fCons (fVar 3) (fCons (fOp2 (oAdd false) (fCon (.int 1)) (fCall f__law_draw (fCons (fVar 0) (fCons (fVar 1) (fCons (fCon (.int 3)) (fNil)))))) (fCons (fVar 3) (fNil)))))) (sSkip))
    (sSeq (sIf (Sf.tAnd (tVal (fOp2 oLt (fVar 3) (fVar 4))) (Sf.tOr (tVal (fOp2 oIs (fVar 5) (fCon .non))) (tVal (fOp2 oGe (fVar 5) (fVar 4))))) (sRet (fTup (fCons (fCall f__law_pick (fCons (fVar 0) (fCons (fVar 1) (fCons (fLst false (fCons (fVar 3) (fCons (fVar 4) (fNil)))) (fNil))))) (fCons (fVar 4) (fCons (fVar 5) (fNil)))))) (sSkip))
    (sRet (fVar 2)))))
def f__law_written : Fn := fn false 6 b__law_written
def b__law_wider : FS := sSeq (sAsg 3 (fCall f__law_draw (fCons (fVar 0) (fCons (fVar 1) (fCons (fOp2 (oAdd false) (fOpN oLen (fCons (fVar 2) (fNil))) (fCon (.int 1))) (fNil))))))
    (sSeq (sAsg 4 (fCall f__law_pick (fCons (fVar 0) (fCons (fVar 1) (fCons (fLst false (fCons (fTup (fCons (fCon (.int 1)) (fCons (fCon (.int 1)) (fCons (fCon .non) (fNil))))) (fCons (fTup (fCons (fCon (.int 1)) (fCons (fCon (.int 1)) (fCons (fCon (.int 4)) (fNil))))) (fCons (fTup (fCons (fCon (.int 1)) (fCons (fCon (.int 3)) (fCons (fCon (.int 1)) (fNil))))) (fCons (fTup (fCons (fCon (.int 1)) (fCons (fCon (.int 2)) (fCons (fCon (.int 1)) (fNil))))) (fNil)))))) (fNil))))))
    (sRet (fOp2 (oAdd false) (fOp2 (oAdd false) (fCut false (fVar 2) (fNoPart) (fPart (fVar 3))) (fTup (fCons (fVar 4) (fNil)))) (fCut false (fVar 2) (fPart (fVar 3)) (fNoPart)))))
def f__law_wider : Fn := fn false 5 b__law_wider
def b_need_form : FS := sIf (tNot (tVal (fCall (pureF f_is_form) (fCons (fVar 0) (fNil))))) (sBad) (sSkip)
def f_need_form : Fn := fn false 1 b_need_form
def b_round_of : FS := sSeq (sAsg 2 (fCall f_ends_of (fCons (fVar 0) (fNil))))
    (sSeq (sPar2 4 5 (fCons (fOpN oMax (fCons (fLock 2 (fComp false (iKeysD (fVar 2)) (tgName 3) (tYesF) (fOpN oSum (fCons (fVar 3) (fNil))) [3])) (fNil))) (fCons (fOp2 (oSub) (fOp2 oIx (fVar 1) (fCon (.int 1))) (fOp2 oIx (fVar 1) (fCon (.int 0)))) (fNil))))
    (sSeq (sPar3 6 7 8 (fCons (fCon (.int 0)) (fCons (fCon (.int 0)) (fCons (fDki0) (fNil)))))
    (sSeq (sLock 2 (sFor (iKeysD (fVar 2)) (tgName 3) (sSeq (sAsg 9 (fOp2 (oMul false) (fOp2 (oMul false) (fOp2 (oMul false) (fOp2 oGetX (fVar 2) (fVar 3)) (fCall (pureF f_power) (fCons (fOp2 oIx (fVar 1) (fCon (.int 0))) (fCons (fOp2 oIx (fVar 3) (fCon (.int 0))) (fNil))))) (fCall (pureF f_power) (fCons (fVar 5) (fCons (fOp2 oIx (fVar 3) (fCon (.int 1))) (fNil))))) (fCall (pureF f_power) (fCons (fOp2 oIx (fVar 1) (fCon (.int 1))) (fCons (fOp2 (oSub) (fVar 4) (fOpN oSum (fCons (fVar 3) (fNil)))) (fNil))))))
    (sSeq (sAug 7 oAddI (fOp2 (oMul false) (fVar 9) (fOpN oSum (fCons (fVar 3) (fNil)))))
    (sSeq (sAsg 10 (fCall (pureF f_round_winner) (fCons (fVar 0) (fCons (fVar 3) (fNil)))))
    (sIf (tVal (fOp2 oIs (fVar 10) (fCon .non))) (sAsgX (fOp2 (oAdd false) (fGetX (fVar 8) (fOp2 (oSub) (fOp2 oIx (fVar 3) (fCon (.int 0))) (fOp2 oIx (fVar 3) (fCon (.int 1)))) (fCon (.int 0))) (fVar 9)) (fVar 8) (fOp2 (oSub) (fOp2 oIx (fVar 3) (fCon (.int 0))) (fOp2 oIx (fVar 3) (fCon (.int 1))))) (sIf (tVal (fOp2 oEq (fVar 10) (fCon (.int 0)))) (sAug 6 oAddI (fVar 9)) (sSkip))))))))
    (sSeq (sAsg 11 (fCall (pureF f_power) (fCons (fOp2 oIx (fVar 1) (fCon (.int 1))) (fCons (fVar 4) (fNil)))))
    (sSeq (sAsg 12 (fTup (fCons (fCall (pureF f_lowest) (fCons (fVar 6) (fCons (fVar 11) (fNil)))) (fCons (fCall (pureF f_lowest) (fCons (fVar 7) (fCons (fVar 11) (fNil)))) (fNil)))))
    (sSeq (sLock 8 (sFor (iKeysD (fVar 8)) (tgName 13) (sSeq (sPar2 14 15 (fCons (fCall (pureF f_lowest) (fCons (fOp2 oGetX (fVar 8) (fVar 13)) (fCons (fVar 11) (fNil)))) (fCons (fCall (pureF f_walk) (fCons (fVar 1) (fCons (fOp2 oIx (fVar 0) (fCon (.int 1))) (fCons (fVar 13) (fNil))))) (fNil))))
    (sAsg 12 (fTup (fCons (fCall (pureF f_added) (fCons (fOp2 oIx (fVar 12) (fCon (.int 0))) (fCons (fCall (pureF f_times) (fCons (fVar 14) (fCons (fOp2 oIx (fVar 15) (fCon (.int 0))) (fNil)))) (fNil)))) (fCons (fCall (pureF f_added) (fCons (fOp2 oIx (fVar 12) (fCon (.int 1))) (fCons (fCall (pureF f_times) (fCons (fVar 14) (fCons (fOp2 oIx (fVar 15) (fCon (.int 1))) (fNil)))) (fNil)))) (fNil))))))))
    (sRet (fVar 12))))))))
def f_round_of : Fn := fn false 16 b_round_of
def b_surpluses : FS := sSeq (sPar2 1 2 (fCons (fTup (fCons (fTup (fCons (fOp1 oNeg (fCon (.int 1))) (fCons (fCon (.int 1)) (fNil)))) (fCons (fTup (fCons (fCon (.int 1)) (fCons (fCon (.int 1)) (fNil)))) (fNil)))) (fCons (fLst true (fNil)) (fNil))))
    (sSeq (sFor (iSq (fVar 0)) (tgName 3) (sSeq (sIf (Sf.tAnd (tVal (fOp2 oIs (fOp2 oIx (fVar 3) (fCon (.int 2))) (fCon .non))) (Sf.tAnd (tVal (fOp2 oGt (fOp2 oIx (fVar 3) (fCon (.int 1))) (fCon (.int 1)))) (tVal (fOp2 oGt (fOp2 (oAdd false) (fOp2 oIx (fOp2 oIx (fVar 1) (fCon (.int 0))) (fCon (.int 0))) (fOp2 oIx (fOp2 oIx (fVar 1) (fCon (.int 1))) (fCon (.int 0)))) (fCon (.int 0)))))) (sRet (fCon .non)) (sSkip))
    (sSeq (sPar2 4 5 (fCons (fCall (pureF f_best_row) (fCons (fVar 3) (fCons (fCon (.bl true)) (fCons (fVar 1) (fNil))))) (fCons (fCall (pureF f_best_row) (fCons (fVar 3) (fCons (fCon (.bl false)) (fCons (fVar 1) (fNil))))) (fNil))))
    (sSeq (sExpr (fMethL mAppend (fVar 2) (fCons (fTup (fCons (fVar 4) (fCons (fVar 5) (fNil)))) (fNil))))
    (sAsg 1 (fTup (fCons (fCut false (fVar 4) (fNoPart) (fPart (fCon (.int 2)))) (fCons (fCut false (fVar 5) (fNoPart) (fPart (fCon (.int 2)))) (fNil)))))))))
    (sRet (fVar 2)))
def f_surpluses : Fn := fn false 6 b_surpluses
def b__law_form : FS := sSeq (sAsg 2 (fCall f__law_pick (fCons (fVar 0) (fCons (fVar 1) (fCons (fLst false (fCons (fCon (.int 1)) (fCons (fCon (.int 1)) (fCons (fCon (.int 2)) (fCons (fCon (.int 2)) (fCons (fCon (.int 3)) (fNil))))))) (fNil))))))
    (sRet (fOpN (oTuple) (fCons (fComp false (iOf kRng1 (fCons (fVar 2) (fNil))) (tgName 3) (tYesF) (fCall f__law_level (fCons (fVar 0) (fCons (fVar 1) (fCons (fIf (tVal (fOp2 oLt (fVar 2) (fCon (.int 3)))) (fOp2 (oSub) (fCon (.int 5)) (fVar 2)) (fCon (.int 2))) (fNil))))) [3]) (fNil))))
def f__law_form : Fn := fn false 4 b__law_form
def b_parting : FS := sSeq (sExpr (fCall (pureF f_need_form) (fCons (fVar 0) (fNil))))
    (sSeq (sExpr (fCall (pureF f_need_form) (fCons (fVar 1) (fNil))))
    (sSeq (sAsg 2 (fTup (fCons (fCall (pureF f_start_of) (fCons (fVar 0) (fNil))) (fCons (fCall (pureF f_start_of) (fCons (fVar 1) (fNil))) (fNil)))))
    (sSeq (sPar2 3 4 (fCons (fDct1 (fVar 2) (fCon .non)) (fCons (fLst false (fCons (fVar 2) (fNil))) (fNil))))
    (sSeq (whileL (tVal (fOp2 oNe (fVar 4) (fLst false (fNil)))) (sSeq (sAsg 5 (fLst true (fNil)))
    (sSeq (sForD (fVar 4) (tgName 6) (sFor (iSq (fTup (fCons (fCon (.int 0)) (fCons (fCon (.int 1)) (fNil))))) (tgName 7) (sSeq (sPar2 8 9 (fCons (fCall (pureF f_after) (fCons (fVar 0) (fCons (fOp2 oIx (fVar 6) (fCon (.int 0))) (fCons (fVar 7) (fNil))))) (fCons (fCall (pureF f_after) (fCons (fVar 1) (fCons (fOp2 oIx (fVar 6) (fCon (.int 1))) (fCons (fVar 7) (fNil))))) (fNil))))
    (sSeq (sIf (tVal (fOp2 oNe (fOp2 oIx (fVar 8) (fCon (.int 1))) (fOp2 oIx (fVar 9) (fCon (.int 1))))) (sRet (fOp2 (oAdd false) (fCall f_row_to (fCons (fVar 3) (fCons (fVar 6) (fNil)))) (fLst false (fCons (fVar 7) (fNil))))) (sSkip))
    (sSeq (sAsg 10 (fTup (fCons (fCall (pureF f_settled) (fCons (fVar 0) (fCons (fOp2 oIx (fVar 8) (fCon (.int 0))) (fNil)))) (fCons (fCall (pureF f_settled) (fCons (fVar 1) (fCons (fOp2 oIx (fVar 9) (fCon (.int 0))) (fNil)))) (fNil)))))
    (sIf (Sf.tAnd (tVal (fOp2 oIs (fOp2 oIx (fVar 8) (fCon (.int 1))) (fCon .non))) (tVal (fOp2 oNinX (fVar 10) (fVar 3)))) (sSeq (sAsgX (fTup (fCons (fVar 6) (fCons (fVar 7) (fNil)))) (fVar 3) (fVar 10))
    (sExpr (fMethL mAppend (fVar 5) (fCons (fVar 10) (fNil))))) (sSkip)))))))
    (sAsg 4 (fVar 5)))) 20000000)
    (sRet (fCon .non))))))
def f_parting : Fn := fn false 11 b_parting
def b_chance : FS := sSeq (sExpr (fCall (pureF f_need_form) (fCons (fVar 0) (fNil))))
    (sSeq (sExpr (fCall (pureF f_need_chance) (fCons (fVar 1) (fNil))))
    (sSeq (sAsg 2 (fCall (pureF f_lowest) (fCons (fOp2 oIx (fVar 1) (fCon (.int 0))) (fCons (fOp2 oIx (fVar 1) (fCon (.int 1))) (fNil)))))
    (sSeq (sFor (iSq (fVar 0)) (tgName 3) (sAsg 2 (fOp2 oIx (fCall (pureF f_round_of) (fCons (fVar 3) (fCons (fVar 2) (fNil)))) (fCon (.int 0)))))
    (sRet (fVar 2)))))
def f_chance : Fn := fn false 4 b_chance
def b_expectation : FS := sSeq (sExpr (fCall (pureF f_need_form) (fCons (fVar 0) (fNil))))
    (sSeq (sExpr (fCall (pureF f_need_chance) (fCons (fVar 1) (fNil))))
    (sSeq (sPar2 2 3 (fCons (fCall (pureF f_lowest) (fCons (fOp2 oIx (fVar 1) (fCon (.int 0))) (fCons (fOp2 oIx (fVar 1) (fCon (.int 1))) (fNil)))) (fCons (fTup (fCons (fCon (.int 1)) (fCons (fCon (.int 1)) (fNil)))) (fNil))))
    (sSeq (sFor (iSq (fVar 0)) (tgName 4) (sSeq (sAsgT [2, 5] (fCall (pureF f_round_of) (fCons (fVar 4) (fCons (fVar 2) (fNil)))))
    (sAsg 3 (fCall (pureF f_times) (fCons (fVar 3) (fCons (fVar 5) (fNil)))))))
    (sRet (fVar 3)))))
def f_expectation : Fn := fn false 6 b_expectation
def b_shortest : FS := sSeq (sExpr (fCall (pureF f_need_form) (fCons (fVar 0) (fNil))))
    (sSeq (sAsg 1 (fCon (.int 1)))
    (sSeq (sFor (iSq (fVar 0)) (tgName 2) (sAug 1 oMulI (fCall (pureF f_least_units) (fCons (fVar 2) (fNil)))))
    (sRet (fVar 1))))
def f_shortest : Fn := fn false 3 b_shortest
def b_longest : FS := sSeq (sExpr (fCall (pureF f_need_form) (fCons (fVar 0) (fNil))))
    (sSeq (sAsg 1 (fCon (.int 1)))
    (sSeq (sFor (iSq (fVar 0)) (tgName 2) (sSeq (sAsg 3 (fCall (pureF f_most_units) (fCons (fVar 2) (fNil))))
    (sSeq (sIf (tVal (fOp2 oIs (fVar 3) (fCon .non))) (sRet (fCon .non)) (sSkip))
    (sAug 1 oMulI (fVar 3)))))
    (sRet (fVar 1))))
def f_longest : Fn := fn false 4 b_longest
def b_surplus : FS := sSeq (sExpr (fCall (pureF f_need_form) (fCons (fVar 0) (fNil))))
    (sSeq (sAsg 1 (fCall (pureF f_surpluses) (fCons (fVar 0) (fNil))))
    (sRet (fIf (tVal (fOp2 oIs (fVar 1) (fCon .non))) (fCon .non) (fOp2 oIx (fOp2 oIx (fOp2 oIx (fVar 1) (fOp1 oNeg (fCon (.int 1)))) (fCon (.int 0))) (fCon (.int 0))))))
def f_surplus : Fn := fn false 2 b_surplus
def b__law_all : FS := sRet (fLst false (fCons (fCall (pureF f_shortest) (fCons (fVar 0) (fNil))) (fCons (fCall (pureF f_longest) (fCons (fVar 0) (fNil))) (fCons (fCall (pureF f_surplus) (fCons (fVar 0) (fNil))) (fCons (fCall (pureF f_chance) (fCons (fVar 0) (fCons (fVar 1) (fNil)))) (fCons (fCall (pureF f_expectation) (fCons (fVar 0) (fCons (fVar 1) (fNil)))) (fNil)))))))
def f__law_all : Fn := fn false 2 b__law_all
def b_law : FS := sSeq (sAsg 1 (fLst true (fCons (fCon (.int 0)) (fCons (fCon (.int 0)) (fNil)))))
    (sSeq (sAsg 2 (fCall f__law_form (fCons (fVar 0) (fCons (fVar 1) (fNil)))))
    (sSeq (sAsg 3 (fOp2 (oAdd false) (fCon (.int 2)) (fCall f__law_draw (fCons (fVar 0) (fCons (fVar 1) (fCons (fCon (.int 8)) (fNil)))))))
    (sSeq (sAsg 4 (fTup (fCons (fCall f__law_draw (fCons (fVar 0) (fCons (fVar 1) (fCons (fOp2 (oAdd false) (fVar 3) (fCon (.int 1))) (fNil))))) (fCons (fVar 3) (fNil)))))
    (sSeq (sAsg 5 (fOpN (oTuple) (fCons (fComp false (iSq (fVar 2)) (tgName 10) (tYesF) (fCall f__law_written (fCons (fVar 0) (fCons (fVar 1) (fCons (fVar 10) (fNil))))) [10]) (fNil))))
    (sSeq (sAsg 6 (fCall (pureF f__law_all) (fCons (fVar 2) (fCons (fVar 4) (fNil)))))
    (sSeq (sIf (Sf.tOr (tVal (fOp2 oIsN (fCall (pureF f_parting) (fCons (fVar 2) (fCons (fVar 5) (fNil)))) (fCon .non))) (tVal (fOp2 oNe (fCall (pureF f__law_all) (fCons (fVar 5) (fCons (fVar 4) (fNil)))) (fVar 6)))) (sRet (fCon (.bl false))) (sSkip))
    (sSeq (sIf (tVal (fOp2 oLt (fOpN oLen (fCons (fVar 2) (fNil))) (fCon (.int 3)))) (sSeq (sAsg 7 (fCall f__law_wider (fCons (fVar 0) (fCons (fVar 1) (fCons (fVar 2) (fNil))))))
    (sSeq (sIf (Sf.tOr (tVal (fOp2 oIsN (fCall (pureF f_parting) (fCons (fVar 2) (fCons (fVar 7) (fNil)))) (fCon .non))) (tVal (fOp2 oIsN (fCall (pureF f_parting) (fCons (fVar 7) (fCons (fVar 2) (fNil)))) (fCon .non)))) (sRet (fCon (.bl false))) (sSkip))
    (sIf (tVal (fOp2 oNe (fCall (pureF f__law_all) (fCons (fVar 7) (fCons (fVar 4) (fNil)))) (fVar 6))) (sRet (fCon (.bl false))) (sSkip)))) (sSkip))
    (sSeq (sAsg 8 (fOp2 (oAdd false) (fCon (.int 1)) (fCall f__law_draw (fCons (fVar 0) (fCons (fVar 1) (fCons (fCon (.int 5)) (fNil)))))))
    (sSeq (sAsg 9 (fTup (fCons (fTup (fCons (fVar 8) (fCons (fCon (.int 1)) (fCons (fCon .non) (fNil))))) (fNil))))
    (sSeq (sIf (tVal (fOp2 oIsN (fCall (pureF f_parting) (fCons (fVar 9) (fCons (fTup (fCons (fTup (fCons (fVar 8) (fCons (fCon (.int 2)) (fCons (fVar 8) (fNil))))) (fNil))) (fNil)))) (fCon .non))) (sRet (fCon (.bl false))) (sSkip))
    (sSeq (sIf (Sf.tAnd (tVal (fOp2 oLt (fVar 8) (fCon (.int 5)))) (tVal (fOp2 oIs (fCall (pureF f_parting) (fCons (fVar 9) (fCons (fTup (fCons (fTup (fCons (fOp2 (oAdd false) (fVar 8) (fCon (.int 1))) (fCons (fCon (.int 1)) (fCons (fCon .non) (fNil))))) (fNil))) (fNil)))) (fCon .non)))) (sRet (fCon (.bl false))) (sSkip))
    (sRet (fAnd (fOp2 oEq (fCall (pureF f_longest) (fCons (fVar 9) (fNil))) (fOp2 (oSub) (fOp2 (oMul false) (fCon (.int 2)) (fVar 8)) (fCon (.int 1)))) (fOp2 oEq (fCall (pureF f_shortest) (fCons (fVar 9) (fNil))) (fVar 8)))))))))))))))
def f_law : Fn := fn false 11 b_law
end Sf
end

section
set_option Elab.async false
set_option maxRecDepth 100000
set_option linter.all false
set_option maxHeartbeats 4000000
namespace Sf
open PySem L2
/-! the draws -/
def tw (p q : Int) (R : Sto) : Sto := .lst [.int p, .int q] :: R
theorem nat_blt {a b : Nat} (h : a < b) : Nat.blt a b = true := Nat.ble_eq_true_of_le h
theorem t_draw {ns : List Int} {n p q : Int} {R : Sto} (h1 : 1 ≤ n) (h2 : n < 100000) (hp : 0 ≤ p) (hq : 0 ≤ q) :
    ∃ r p' q', 0 ≤ r ∧ r < n ∧ 0 ≤ p' ∧ 0 ≤ q' ∧ f__law_draw [.scr (ns.map D.int), .loc 0, .int n] (tw p q R) = .ok (.int r) (tw p' q' R) := by
  have n0 : 0 < n := by omega
  have hm : ∀ i : Int, 0 ≤ i % n ∧ i % n < n := fun i => ⟨Int.emod_nonneg _ (by omega), Int.emod_lt_of_pos _ n0⟩
  unfold tw f__law_draw fn b__law_draw
  by_cases c1 : 0 < q
  · refine ⟨q % n, p, q / n, (hm _).1, (hm _).2, hp, Int.ediv_nonneg hq (by omega), ?_⟩
    simp [c1, mod_ok n0, fdiv_ok n0 (show n < 1000000 by omega), end_rt]
  · have p1 : 0 ≤ p + 1 := by omega
    cases ns with
    | nil =>
      refine ⟨p % n, p + 1, q, (hm _).1, (hm _).2, p1, hq, ?_⟩
      have e := eqScr0 (l := []) (S := [.lst [.int (p + 1), .int q]] ++ R)
      simp at e
      simp [c1, e, mod_ok n0, end_rt]
    | cons a as =>
      have e := eqScr0 (l := a :: as) (S := [.lst [.int (p + 1), .int q]] ++ R)
      simp at e
      have L0 : 0 < (((a :: as).length : Nat) : Int) := by simp
      have i2 := ix_int (l := a :: as) (i := p % ((a :: as).length : Nat)) (Int.emod_nonneg _ (by omega)) (Int.emod_lt_of_pos _ L0)
      obtain ⟨k2, _, i2⟩ := i2
      have hw : Nat.blt (((k2 * 1103515245 + 7919 * p + 12345) % 2147483647).natAbs) 18446744073709551616 = true := nat_blt (by omega)
      have m5 : ∀ S, oPow (.int ((k2 * 1103515245 + 7919 * p + 12345) % 2147483647)) (.int 5) S = some (.int (((k2 * 1103515245 + 7919 * p + 12345) % 2147483647) ^ 5), S) := fun _ => by
        unfold oPow
        simp only
        rw [hw]
        rfl
      have q18 : ∀ S, oPow (.int 10) (.int 18) S = some (.int 1000000000000000000, S) := fun _ => rfl
      have q60 : ∀ S, oPow (.int 10) (.int 60) S = some (.int 1000000000000000000000000000000000000000000000000000000000000, S) := fun _ => rfl
      have m60 : ∀ S, oMul false (.int 1000000000000000000000000000000000000000000000000000000000000) (.int 1000000000000000000000000000000000000000000000000000000000000) S = some (.int 1000000000000000000000000000000000000000000000000000000000000000000000000000000000000000000000000000000000000000000000000, S) := fun _ => rfl
      have mq : ∀ i S, oMod (.int i) (.int 1000000000000000000000000000000000000000000000000000000000000000000000000000000000000000000000000000000000000000000000000) S = some (.int (i % 1000000000000000000000000000000000000000000000000000000000000000000000000000000000000000000000000000000000000000000000000), S) := fun _ _ => mod_ok (by decide)
      have mA : ∀ i S, oMod (.int i) (.int 2147483647) S = some (.int (i % 2147483647), S) := fun _ _ => mod_ok (by decide)
      have mB : ∀ i S, oMod (.int i) (.int 999983) S = some (.int (i % 999983), S) := fun _ _ => mod_ok (by decide)
      have mC : ∀ S, oMod (.int p) (.int ((as.length : Int) + 1)) S = some (.int (p % ((as.length : Int) + 1)), S) := fun _ => mod_ok (by omega)
      have mD : ∀ i S, oMul false (.int i) (.int 1103515245) S = some (.int (i * 1103515245), S) := fun _ _ => mul_r rfl
      have mE : ∀ i S, oMul false (.int 7919) (.int i) S = some (.int (7919 * i), S) := fun _ _ => mul_l rfl
      simp only [List.map_cons, List.length_cons, Int.natCast_add, Int.cast_ofNat_Int] at e L0 i2
      by_cases c2 : p < ((a :: as).length : Nat)
      · obtain ⟨k1, _, i1⟩ := ix_int (l := a :: as) (i := p) hp c2
        simp only [List.map_cons, List.length_cons, Int.natCast_add, Int.cast_ofNat_Int] at i1 c2
        by_cases c3 : 1000000000000000000 ≤ k1
        · refine ⟨k1 % n, p + 1, k1 / n % 1000000000000000000000000000000000000000000000000000000000000000000000000000000000000000000000000000000000000000000000000, (hm _).1, (hm _).2, p1, Int.emod_nonneg _ (by decide), ?_⟩
          simp [c1, e, c2, i1, q18, c3, fdiv_ok n0 (show n < 1000000 by omega), q60, m60, mq, mod_ok n0, end_rt]
        · refine ⟨((k2 * 1103515245 + 7919 * p + 12345) % 2147483647) ^ 5 % 2147483647 % 999983 % n, p + 1, q, (hm _).1, (hm _).2, p1, hq, ?_⟩
          simp [c1, e, c2, i1, q18, c3, mA, mB, mC, mD, mE, i2, m5, mod_ok n0, end_rt]
      · refine ⟨((k2 * 1103515245 + 7919 * p + 12345) % 2147483647) ^ 5 % 2147483647 % 999983 % n, p + 1, q, (hm _).1, (hm _).2, p1, hq, ?_⟩
        simp only [List.map_cons, List.length_cons, Int.natCast_add, Int.cast_ofNat_Int] at c2
        simp [c1, e, c2, q18, mA, mB, mC, mD, mE, i2, m5, mod_ok n0, end_rt]

end Sf
end

section
set_option Elab.async false
set_option maxRecDepth 100000
set_option linter.all false
set_option maxHeartbeats 4000000
namespace Sf
open PySem L2
/-! forms -/
structure Lv where
  t : Int
  l : Int
  c : Option Int
def oI : Option Int → D
  | some i => .int i
  | none => .non
@[simp] theorem oI_none : oI none = .non := rfl
@[simp] theorem oI_some {i : Int} : oI (some i) = .int i := rfl
def Lv.D (v : Lv) : Sf.D := .tup [.int v.t, .int v.l, oI v.c]
def Lv.Ok (v : Lv) : Prop := 1 ≤ v.t ∧ v.t ≤ 5 ∧ 1 ≤ v.l ∧ v.l ≤ 3 ∧ ∀ c, v.c = some c → v.t ≤ c ∧ c ≤ 9
def Lv.In (m : Int) (v : Lv) : Prop := 1 ≤ v.t ∧ v.t ≤ m ∧ 1 ≤ v.l ∧ v.l ≤ 3 ∧ (v.c = none ∨ v.c = some v.t ∨ v.c = some (v.t + 1) ∨ v.c = some (v.t + 3))
theorem Lv.In.ok {m : Int} {v : Lv} (h : v.In m) (hm : m ≤ 5) : v.Ok := by
  obtain ⟨h1, h2, h3, h4, h5⟩ := h
  refine ⟨h1, by omega, h3, h4, fun c e => ?_⟩
  rw [e] at h5
  simp at h5
  omega
@[simp] theorem tw_len {p q : Int} {R : Sto} : (tw p q R).length = R.length + 1 := by unfold tw; simp

end Sf
end

section
set_option Elab.async false
set_option maxRecDepth 100000
set_option linter.all false
set_option maxHeartbeats 4000000
namespace Sf
open PySem L2
/-! a random level -/
theorem t_pick {ns : List Int} {l : List D} {p q : Int} {R : Sto} (h1 : l ≠ []) (h2 : l.length < 100000) (hp : 0 ≤ p) (hq : 0 ≤ q) :
    ∃ i p' q', i < l.length ∧ 0 ≤ p' ∧ 0 ≤ q' ∧ ∀ d, l[i]? = some d → f__law_pick [.scr (ns.map D.int), .loc 0, .lst l] (tw p q R) = .ok d (tw p' q' R) := by
  have : 0 < l.length := List.length_pos_iff.mpr h1
  obtain ⟨r, p', q', r1, r2, hp', hq', e⟩ := t_draw (ns := ns) (n := l.length) (R := R) (by omega) (by omega) hp hq
  refine ⟨r.toNat, p', q', by omega, hp', hq', fun d hd => ?_⟩
  unfold f__law_pick fn b__law_pick
  simp [e, ix_nn r1, hd, end_rt]
theorem t_level {ns : List Int} {m p q : Int} {R : Sto} (h1 : 1 ≤ m) (h2 : m ≤ 5) (hp : 0 ≤ p) (hq : 0 ≤ q) :
    ∃ v p' q', Lv.In m v ∧ 0 ≤ p' ∧ 0 ≤ q' ∧ f__law_level [.scr (ns.map D.int), .loc 0, .int m] (tw p q R) = .ok v.D (tw p' q' R) := by
  obtain ⟨r, p1, q1, r1, r2, hp, hq, e1⟩ := t_draw (ns := ns) (n := m) (R := R) (by omega) (by omega) hp hq
  obtain ⟨i, p2, q2, i1, hp, hq, e2⟩ := t_pick (ns := ns) (R := R) (l := [.non, .non, .int (1 + r), .int (1 + r + 1), .int (1 + r + 3)]) (by simp) (by simp) hp hq
  obtain ⟨u, p3, q3, u1, u2, hp, hq, e3⟩ := t_draw (ns := ns) (n := 3) (R := R) (by omega) (by omega) hp hq
  have key : ∀ c : Option Int, ([.non, .non, .int (1 + r), .int (1 + r + 1), .int (1 + r + 3)] : List D)[i]? = some (oI c) → (c = none ∨ c = some (1 + r) ∨ c = some (1 + r + 1) ∨ c = some (1 + r + 3)) →
      ∃ v p' q', Lv.In m v ∧ 0 ≤ p' ∧ 0 ≤ q' ∧ f__law_level [.scr (ns.map D.int), .loc 0, .int m] (tw p q R) = .ok v.D (tw p' q' R) := fun c hc hc' => by
    refine ⟨⟨1 + r, 1 + u, c⟩, p3, q3, ⟨by simp only; omega, by simp only; omega, by simp only; omega, by simp only; omega, hc'⟩, hp, hq, ?_⟩
    have e2 := e2 _ hc
    unfold f__law_level fn b__law_level
    rcases hc' with rfl | rfl | rfl | rfl <;> simp at e2 <;> simp [e1, e2, e3, end_rt, Lv.D]
  match i, i1 with
  | 0, _ => exact key none rfl (.inl rfl)
  | 1, _ => exact key none rfl (.inl rfl)
  | 2, _ => exact key (some (1 + r)) rfl (.inr (.inl rfl))
  | 3, _ => exact key (some (1 + r + 1)) rfl (.inr (.inr (.inl rfl)))
  | 4, _ => exact key (some (1 + r + 3)) rfl (.inr (.inr (.inr rfl)))
  | i + 5, h => simp at h; omega

end Sf
end

section
set_option Elab.async false
set_option maxRecDepth 100000
set_option linter.all false
set_option maxHeartbeats 4000000
namespace Sf
open PySem L2
/-! forms; comprehensions that draw -/
theorem comp_tw {α : Type} (P : α → Prop) (enc : α → D) (e : FE) (env : En) (j : Nat) (R : Sto) : ∀ (l : List D) (p q : Int),
    (∀ d ∈ l, ∀ p q : Int, 0 ≤ p → 0 ≤ q → ∃ a p' q', P a ∧ 0 ≤ p' ∧ 0 ≤ q' ∧ e (env.set j d) (tw p q R) = .ok (enc a) (tw p' q' R)) → 0 ≤ p → 0 ≤ q →
    ∃ (as : List α) (p' q' : Int), as.length = l.length ∧ (∀ a ∈ as, P a) ∧ 0 ≤ p' ∧ 0 ≤ q' ∧ compL (tgName j) tYesF e env l (tw p q R) = .ok (as.map enc) (tw p' q' R)
  | [], p, q, _, hp, hq => ⟨[], p, q, rfl, by simp, hp, hq, rfl⟩
  | d :: l, p, q, h, hp, hq => by
    obtain ⟨a, p1, q1, ha, hp, hq, e1⟩ := h d (by simp) p q hp hq
    obtain ⟨as, p2, q2, l2, has, hp, hq, e2⟩ := comp_tw P enc e env j R l p1 q1 (fun d hd => h d (by simp [hd])) hp hq
    refine ⟨a :: as, p2, q2, by simp [l2], by simpa using ⟨ha, has⟩, hp, hq, ?_⟩
    simp only [compL, x_tgName, x_yes, e1, e2]
    rfl
theorem comp_map {α : Type} (enc enc2 : α → D) (e : FE) (env : En) (j : Nat) (S : Sto) : ∀ (l : List α), (∀ a ∈ l, e (env.set j (enc a)) S = .ok (enc2 a) S) →
    compL (tgName j) tYesF e env (l.map enc) S = .ok (l.map enc2) S
  | [], _ => rfl
  | a :: l, h => by
    simp only [List.map_cons, compL, x_tgName, x_yes, h a (by simp), comp_map enc enc2 e env j S l (fun a ha => h a (by simp [ha]))]
def mostT (k : Nat) : Int := if k < 3 then 5 - k else 2
def Drawn (vs : List Lv) : Prop := 1 ≤ vs.length ∧ vs.length ≤ 3 ∧ ∀ v ∈ vs, v.In (mostT vs.length)
def Form (vs : List Lv) : Prop := 1 ≤ vs.length ∧ vs.length ≤ 3 ∧ ∀ v ∈ vs, v.Ok
theorem Drawn.form {vs : List Lv} (h : Drawn vs) : Form vs := ⟨h.1, h.2.1, fun v hv => (h.2.2 v hv).ok (by unfold mostT; split <;> omega)⟩
abbrev formD (vs : List Lv) : D := .tup (vs.map Lv.D)
theorem rngL_mem {n : Nat} {lo : Int} {d : D} (h : d ∈ rngL lo n) : ∃ k : Int, d = .int k := by
  obtain ⟨i, e⟩ := List.mem_iff_getElem?.mp h
  exact ⟨_, rngL_get e⟩

end Sf
end

section
set_option Elab.async false
set_option maxRecDepth 100000
set_option linter.all false
set_option maxHeartbeats 4000000
namespace Sf
open PySem L2
theorem t_form {ns : List Int} {p q : Int} {R : Sto} (hp : 0 ≤ p) (hq : 0 ≤ q) :
    ∃ vs p' q', Drawn vs ∧ 0 ≤ p' ∧ 0 ≤ q' ∧ f__law_form [.scr (ns.map D.int), .loc 0] (tw p q R) = .ok (formD vs) (tw p' q' R) := by
  obtain ⟨i, p2, q2, i1, hp, hq, e2⟩ := t_pick (ns := ns) (R := R) (l := [.int 1, .int 1, .int 2, .int 2, .int 3]) (by simp) (by simp) hp hq
  have key : ∀ k : Nat, 1 ≤ k → k ≤ 3 → ([.int 1, .int 1, .int 2, .int 2, .int 3] : List D)[i]? = some (.int k) →
      ∃ vs p' q', Drawn vs ∧ 0 ≤ p' ∧ 0 ≤ q' ∧ f__law_form [.scr (ns.map D.int), .loc 0] (tw p q R) = .ok (formD vs) (tw p' q' R) := fun k k1 k2 hk => by
    have e2 := e2 _ hk
    obtain ⟨vs, p3, q3, hl, hv, hp, hq, e⟩ := comp_tw (Lv.In (mostT k)) Lv.D (fCall f__law_level (fCons (fVar 0) (fCons (fVar 1) (fCons (fIf (tVal (fOp2 oLt (fVar 2) (fCon (.int 3)))) (fOp2 (oSub) (fCon (.int 5)) (fVar 2)) (fCon (.int 2))) (fNil)))))
      [.scr (ns.map D.int), .loc 0, .int k, .und] 3 R (rngL 0 k) p2 q2 (fun d hd p q hp hq => by
        obtain ⟨j, rfl⟩ := rngL_mem hd
        by_cases c : k < 3
        · obtain ⟨v, p3, q3, hv, hp, hq, e⟩ := t_level (ns := ns) (R := R) (m := 5 - k) (by omega) (by omega) hp hq
          refine ⟨v, p3, q3, by unfold mostT; rw [if_pos c]; exact hv, hp, hq, ?_⟩
          have c' : (k : Int) < 3 := by omega
          simp [c', e]
        · obtain ⟨v, p3, q3, hv, hp, hq, e⟩ := t_level (ns := ns) (R := R) (m := 2) (by omega) (by omega) hp hq
          refine ⟨v, p3, q3, by unfold mostT; rw [if_neg c]; exact hv, hp, hq, ?_⟩
          have c' : ¬ (k : Int) < 3 := by omega
          simp [c', e]) hp hq
    rw [rngL_len] at hl
    refine ⟨vs, p3, q3, ⟨by omega, by omega, by rw [hl]; exact hv⟩, hp, hq, ?_⟩
    have ks : smallI k = true := by unfold smallI; simp; omega
    have kf : fit k = true := fit_of (by omega)
    unfold f__law_form fn b__law_form
    simp [e2, kRng1, ks, rngL_len, kf, e, end_rt]
  match i, i1 with
  | 0, _ => exact key 1 (by omega) (by omega) rfl
  | 1, _ => exact key 1 (by omega) (by omega) rfl
  | 2, _ => exact key 2 (by omega) (by omega) rfl
  | 3, _ => exact key 2 (by omega) (by omega) rfl
  | 4, _ => exact key 3 (by omega) (by omega) rfl
  | i + 5, h => simp at h; omega

end Sf
end

section
set_option Elab.async false
set_option maxRecDepth 100000
set_option linter.all false
set_option maxHeartbeats 4000000
namespace Sf
open PySem L2
/-! plain parts: pairs, plays -/
abbrev Pr := Int × Int
def prD (p : Pr) : D := .tup [.int p.1, .int p.2]
abbrev stD (st : List Pr) : D := .tup (st.map prD)
def plusM (p : Pr) (s : Int) : Pr := if s = 0 then (p.1 + 1, p.2) else (p.1, p.2 + 1)
def rwM (v : Lv) (p : Pr) : Option Int :=
  if p.2 < p.1 then (if (v.t ≤ p.1 ∧ v.l ≤ p.1 - p.2) ∨ v.c = some p.1 then some 0 else none) else (if (v.t ≤ p.2 ∧ v.l ≤ p.2 - p.1) ∨ v.c = some p.2 then some 1 else none)
@[simp] theorem x_isaInt {i : Int} {S : Sto} : oIsa [.int i, .glob (.ty "int")] S = some (.bl true, S) := rfl
@[simp] theorem x_isaIntB {i : Int} {S : Sto} : oIsa [.int i, .glob (.ty "bool")] S = some (.bl false, S) := rfl
@[simp] theorem x_isaTup {l : List D} {S : Sto} : oIsa [.tup l, .glob (.ty "tuple")] S = some (.bl true, S) := rfl
@[simp] theorem x_isaTup2 {l : List D} {S : Sto} : oIsa [.tup l, .tup [.glob (.ty "list"), .glob (.ty "tuple")]] S = some (.bl true, S) := rfl
@[simp] theorem x_isaLst2 {l : List D} {S : Sto} : oIsa [.lst l, .tup [.glob (.ty "list"), .glob (.ty "tuple")]] S = some (.bl true, S) := rfl
theorem low_Lv {v : Lv} : lowD 0 v.D = true := by obtain ⟨t, l, c⟩ := v; cases c <;> rfl
theorem low_form {vs : List Lv} : lowL 0 [formD vs] = true := by
  have := lowL_map Lv.D (fun _ => low_Lv) vs
  simp [lowL, lowD, this]
theorem x_all {bs : List Bool} {S : Sto} : oAll [.lst (bs.map D.bl)] S = some (.bl (bs.all id), S) := by
  show (match blsD (bs.map D.bl) with
      | some bs => some (D.bl (bs.all id), S)
      | none => none) = _
  rw [blsD_bls]
theorem all_true {α : Type} (l : List α) {S : Sto} : oAll [.lst (l.map fun _ => D.bl true)] S = some (.bl true, S) := by
  have := x_all (bs := l.map fun _ => true) (S := S)
  rw [List.map_map] at this
  rw [show (l.map fun _ => D.bl true) = l.map (D.bl ∘ fun _ => true) from rfl, this]
  simp
abbrev rowD (rs : List Int) : D := .lst (rs.map D.int)
abbrev rowT (rs : List Int) : D := .tup (rs.map D.int)
def Row (rs : List Int) : Prop := rs.length ≤ 200 ∧ ∀ r ∈ rs, r = 0 ∨ r = 1
theorem low_ints (rs : List Int) : lowL 0 (rs.map D.int) = true := lowL_map D.int (fun _ => rfl) rs
def afterM : List Lv → List Pr → Int → List Pr × Option Int
  | v :: vs, p :: ps, s => match rwM v (plusM p s) with
    | none => (plusM p s :: ps, none)
    | some w => match vs with
      | [] => (plusM p s :: ps, some w)
      | vs => ((0, 0) :: (afterM vs ps s).1, (afterM vs ps s).2)
  | _, ps, _ => (ps, none)
theorem ix_mid {A C : List D} {x : D} : ixD (A ++ x :: C) (A.length : Nat) = some x := by
  rw [ix_nn (by omega)]; simp
theorem ixn_mid {n : Nat} {A : List D} (h : A.length < n) : ixN n (A.length : Nat) = some A.length := by
  unfold ixN; rw [if_pos (by omega), if_pos (by omega)]; simp
theorem set_mid {A C : List D} {x y : D} : (A ++ x :: C).set A.length y = A ++ y :: C := by simp
theorem setO_mid {A C : List D} {x y : D} : setO (.loc 0) (.int (A.length : Nat)) y [.lst (A ++ x :: C)] = some [.lst (A ++ y :: C)] := by
  rw [x_setO]; simp [ixn_mid]
theorem low_prs (st : List Pr) : lowL 0 (st.map prD) = true := lowL_map prD (fun _ => rfl) st
theorem pl_pr {n : Nat} {p : Pr} : pl (n + 1) (prD p) = true := by simp [prD, pl, plL_cons, plL_nil, pl_int]
theorem pl_st {n : Nat} (st : List Pr) : plL (n + 1) (st.map prD) = true := plL_map prD (fun _ => pl_pr) st
theorem afterM_len : ∀ (vs : List Lv) (st : List Pr) (s : Int), (afterM vs st s).1.length = st.length
  | [], st, s => by cases st <;> simp [afterM]
  | v :: vs, [], s => by simp [afterM]
  | v :: vs, p :: ps, s => by
    unfold afterM
    cases rwM v (plusM p s) with
    | none => simp
    | some w =>
      cases vs with
      | nil => simp
      | cons v2 vs => simp [afterM_len (v2 :: vs) ps s]
structure Play where
  st : List Pr
  w : Option Int
  m : Int
def stepM (vs : List Lv) (x : Play) (s : Int) : Play := match x.w with
  | none => ⟨(afterM vs x.st s).1, (afterM vs x.st s).2, x.m + 1⟩
  | some _ => x
def start (vs : List Lv) : Play := ⟨List.replicate vs.length (0, 0), none, 0⟩
def playM (vs : List Lv) (rs : List Int) : Play := rs.foldl (stepM vs) (start vs)
theorem stepM_len {vs : List Lv} {x : Play} {s : Int} : (stepM vs x s).st.length = x.st.length := by
  unfold stepM; cases x.w with
  | none => simp [afterM_len]
  | some w => rfl
theorem fold_len {vs : List Lv} : ∀ (rs : List Int) (x : Play), (rs.foldl (stepM vs) x).st.length = x.st.length
  | [], x => rfl
  | s :: rs, x => by rw [List.foldl_cons, fold_len rs, stepM_len]
theorem rep_one (l : D) : ∀ n : Nat, (List.replicate n [l]).flatten = List.replicate n l
  | 0 => rfl
  | n + 1 => by rw [List.replicate_succ, List.flatten_cons, rep_one l n, List.replicate_succ]; rfl
theorem x_repT {d : D} {n : Nat} {S : Sto} (h1 : 1 ≤ n) (h2 : n ≤ 1000) : oMul false (.tup [d]) (.int n) S = some (.tup (List.replicate n d), S) := by
  show (bif decide ((n : Int) = 1) then some (D.tup [d], S) else bif true && true && decide ((2 : Int) ≤ n) && decide ((n : Int) ≤ 1000) then some (.tup (List.replicate (n : Int).toNat [d]).flatten, S) else none) = _
  by_cases h : n = 1
  · subst h; rfl
  · rw [decide_eq_false (show ¬ ((n : Int) = 1) by omega), decide_eq_true (show (2 : Int) ≤ n by omega), decide_eq_true (show (n : Int) ≤ 1000 by omega), Int.toNat_natCast, rep_one]; rfl
theorem low_form' {vs : List Lv} : lowD 0 (formD vs) = true := by show lowL 0 (vs.map Lv.D) = true; exact lowL_map Lv.D (fun _ => low_Lv) vs
theorem pl_oI {n : Nat} {w : Option Int} : pl n (oI w) = true := by cases w <;> cases n <;> rfl
theorem low_row {rs : List Int} {row : D} (hr : row = rowD rs ∨ row = rowT rs) : lowD 0 row = true := by rcases hr with rfl | rfl <;> exact low_ints rs
theorem low_fr {vs : List Lv} {rs : List Int} {row : D} (hr : row = rowD rs ∨ row = rowT rs) : lowL 0 [formD vs, row] = true := by
  simp only [lowL, low_form', low_row hr]; rfl

end Sf
end

section
set_option Elab.async false
set_option maxRecDepth 100000
set_option linter.all false
set_option maxHeartbeats 4000000
namespace Sf
open PySem L2
theorem cut_to {l : List Int} {k : Int} {S : Sto} (h1 : 0 ≤ k) (h2 : k ≤ l.length) (h3 : l.length ≤ 1000) : oCut false (rowD l) none (some k) S = some (rowD (l.take k.toNat), S) := by
  have e : cutD (l.map D.int) none (some k) = (l.take k.toNat).map D.int := by
    unfold cutD
    obtain ⟨n, rfl⟩ := Int.eq_ofNat_of_zero_le h1
    rw [HT.sIx_none, HT.sIx_nat, List.length_map, Nat.min_eq_left (by omega), List.drop_zero, Nat.sub_zero, ← List.map_take]; rfl
  show mkL false (cutD (l.map D.int) none (some k)) S = _
  rw [e, x_mkF, fit_of (by simp; omega)]; rfl
@[simp] theorem x_cut {m : Bool} {a : FE} {lo hi : FO} {env : En} {S : Sto} : fCut m a lo hi env S = (a env S).bind fun x S1 => (lo env S1).bind fun l S2 => (hi env S2).bind fun u S3 => outO (oCut m x l u S3) := rfl
@[simp] theorem x_nopart {env : En} {S : Sto} : fNoPart env S = .ok none S := rfl
@[simp] theorem x_part {f : FE} {env : En} {S : Sto} : fPart f env S = (f env S).bind fun x S1 => match x with
  | .int i => .ok (some i) S1
  | _ => .bad := rfl

end Sf
end

section
set_option Elab.async false
set_option maxRecDepth 100000
set_option linter.all false
set_option maxHeartbeats 4000000
namespace Sf
open PySem L2
/-! is_form -/
theorem t_is_count {i a b : Int} {S : Sto} : pureF f_is_count [.int i, .int a, .int b] S = .ok (.bl (decide (a ≤ i) && decide (i ≤ b))) S := by
  apply pure_eq
  · rfl
  · unfold f_is_count fn b_is_count
    by_cases h : a ≤ i <;> simp [h, end_rt]
theorem t_is_level {v : Lv} {S : Sto} (h : v.Ok) : pureF f_is_level [v.D] S = .ok (.bl true) S := by
  obtain ⟨h1, h2, h3, h4, h5⟩ := h
  obtain ⟨t, l, c⟩ := v
  simp only at h1 h2 h3 h4 h5
  cases c with
  | none =>
    apply pure_eq
    · rfl
    · unfold f_is_level fn b_is_level Lv.D
      simp [t_is_count, h1, h2, h3, h4, end_rt]
  | some c =>
    have h5 := h5 c rfl
    apply pure_eq
    · rfl
    · unfold f_is_level fn b_is_level Lv.D
      simp [t_is_count, h1, h2, h3, h4, h5.1, h5.2, end_rt]
theorem t_is_form {vs : List Lv} {S : Sto} (h : Form vs) : pureF f_is_form [formD vs] S = .ok (.bl true) S := by
  obtain ⟨h1, h2, h3⟩ := h
  refine pure_eq low_form ?_
  unfold f_is_form fn b_is_form
  have e := comp_map Lv.D (fun _ => D.bl true) (fCall (pureF f_is_level) (fCons (fVar 1) (fNil))) [formD vs, .und] 1 [] vs (fun a ha => by have := t_is_level (S := []) (h3 a ha); unfold Lv.D at this ⊢; simp [this])
  have f : fit vs.length = true := fit_of (by omega)
  have g1 : (1 : Int) ≤ vs.length := by omega
  have g2 : (vs.length : Int) ≤ 3 := by omega
  simp [g1, g2, f, e, all_true, end_rt]
theorem t_need_form {vs : List Lv} {S : Sto} (h : Form vs) : pureF f_need_form [formD vs] S = .ok .non S := by
  refine pure_eq low_form ?_
  unfold f_need_form fn b_need_form
  simp [t_is_form h]; rfl

end Sf
end

section
set_option Elab.async false
set_option maxRecDepth 100000
set_option linter.all false
set_option maxHeartbeats 4000000
namespace Sf
open PySem L2
/-! plus, round_winner -/
theorem t_plus {p : Pr} {s : Int} {S : Sto} : pureF f_plus [prD p, .int s] S = .ok (prD (plusM p s)) S := by
  apply pure_eq
  · rfl
  · unfold f_plus fn b_plus prD plusM
    by_cases h : s = 0 <;> simp [h, end_rt]
theorem t_rw {v : Lv} {p : Pr} {S : Sto} : pureF f_round_winner [v.D, prD p] S = .ok (oI (rwM v p)) S := by
  obtain ⟨t, l, c⟩ := v
  obtain ⟨a, b⟩ := p
  refine pure_eq (by simp [lowL, lowD, low_Lv, prD]) ?_
  unfold f_round_winner fn b_round_winner Lv.D prD rwM
  cases c with
  | none =>
    by_cases h : b < a
    · by_cases h1 : t ≤ a <;> by_cases h2 : l ≤ a - b <;> simp [h, h1, h2, end_rt]
    · by_cases h1 : t ≤ b <;> by_cases h2 : l ≤ b - a <;> simp [h, h1, h2, end_rt]
  | some c =>
    by_cases h : b < a
    · by_cases h3 : c = a
      · subst h3; by_cases h1 : t ≤ c <;> by_cases h2 : l ≤ c - b <;> simp [h, h1, h2, end_rt]
      · have h4 : ¬ a = c := fun e => h3 e.symm
        by_cases h1 : t ≤ a <;> by_cases h2 : l ≤ a - b <;> simp [h, h1, h2, h3, h4, end_rt]
    · by_cases h3 : c = b
      · subst h3; by_cases h1 : t ≤ c <;> by_cases h2 : l ≤ c - a <;> simp [h, h1, h2, end_rt]
      · have h4 : ¬ b = c := fun e => h3 e.symm
        by_cases h1 : t ≤ b <;> by_cases h2 : l ≤ b - a <;> simp [h, h1, h2, h3, h4, end_rt]

end Sf
end

section
set_option Elab.async false
set_option maxRecDepth 100000
set_option linter.all false
set_option maxHeartbeats 4000000
namespace Sf
open PySem L2
/-! after -/
def afterB : FS := (sSeq (sAsgIx (fCall (pureF f_plus) (fCons (fOp2 oIx (fVar 3) (fVar 4)) (fCons (fVar 2) (fNil)))) (fVar 3) (fVar 4))
    (sSeq (sAsg 6 (fCall (pureF f_round_winner) (fCons (fVar 5) (fCons (fOp2 oIx (fVar 3) (fVar 4)) (fNil)))))
    (sSeq (sIf (tVal (fOp2 oIs (fVar 6) (fCon .non))) (sBreak) (sSkip))
    (sSeq (sIf (tVal (fOp2 oEq (fOp2 (oAdd false) (fVar 4) (fCon (.int 1))) (fOpN oLen (fCons (fVar 0) (fNil))))) (sRet (fTup (fCons (fOpN (oTuple) (fCons (fVar 3) (fNil))) (fCons (fVar 6) (fNil))))) (sSkip))
    (sAsgIx (fTup (fCons (fCon (.int 0)) (fCons (fCon (.int 0)) (fNil)))) (fVar 3) (fVar 4))))))
theorem t_afterStep {fs : List D} {z c : D} {s : Int} {v : Lv} {p : Pr} {A C : List D} (hA : A.length < fs.length) (hf : fs.length ≤ 1000) (hC : (A ++ prD p :: C).length = fs.length) :
    afterB [.tup fs, z, .int s, .loc 0, .int (A.length : Nat), v.D, c] [.lst (A ++ prD p :: C)] = match rwM v (plusM p s) with
    | none => .bk [.tup fs, z, .int s, .loc 0, .int (A.length : Nat), v.D, .non] [.lst (A ++ prD (plusM p s) :: C)]
    | some w => if A.length + 1 = fs.length then .rt (.tup [.tup (A ++ prD (plusM p s) :: C), .int w]) [.lst (A ++ prD (plusM p s) :: C)]
       else .nx [.tup fs, z, .int s, .loc 0, .int (A.length : Nat), v.D, .int w] [.lst (A ++ prD (0, 0) :: C)] := by
  have ep : ∀ S, pureF f_plus [prD p, .int s] S = .ok (prD (plusM p s)) S := fun S => t_plus
  have er : ∀ S, pureF f_round_winner [v.D, prD (plusM p s)] S = .ok (oI (rwM v (plusM p s))) S := fun S => t_rw
  have so : ∀ x y, setO (.loc 0) (.int (A.length : Nat)) y [.lst (A ++ x :: C)] = some [.lst (A ++ y :: C)] := fun x y => setO_mid
  have z0 : prD (0, 0) = .tup [.int 0, .int 0] := rfl
  unfold afterB
  rw [z0]
  unfold Lv.D at er ⊢
  cases hw : rwM v (plusM p s) with
  | none =>
    rw [hw] at er
    simp [-x_setO, ix_mid, ep, er, so]
  | some w =>
    rw [hw] at er
    by_cases h : A.length + 1 = fs.length
    · have h' : (A.length : Int) + 1 = fs.length := by omega
      simp [-x_setO, ix_mid, ep, er, so, h, h']
    · have h' : ¬ (A.length : Int) + 1 = fs.length := by omega
      simp [-x_setO, ix_mid, ep, er, so, h, h']
theorem t_afterB {fs : List D} {z : D} {s : Int} (hf : fs.length ≤ 1000) : ∀ (vs : List Lv) (ps : List Pr) (A : List D) (a b c : D), ps.length = vs.length → fs.length = A.length + vs.length →
    match afterM vs ps s with
    | (ps', some w) => forL (unTup [4, 5]) afterB (enumL A.length (vs.map Lv.D)) [.tup fs, z, .int s, .loc 0, a, b, c] [.lst (A ++ ps.map prD)] = .rt (.tup [.tup (A ++ ps'.map prD), .int w]) [.lst (A ++ ps'.map prD)]
    | (ps', none) => ∃ a' b' c', forL (unTup [4, 5]) afterB (enumL A.length (vs.map Lv.D)) [.tup fs, z, .int s, .loc 0, a, b, c] [.lst (A ++ ps.map prD)] = .nx [.tup fs, z, .int s, .loc 0, a', b', c'] [.lst (A ++ ps'.map prD)]
  | [], ps, A, a, b, c, h1, h2 => ⟨a, b, c, rfl⟩
  | v :: vs, [], A, a, b, c, h1, h2 => by simp at h1
  | v :: vs, p :: ps, A, a, b, c, h1, h2 => by
    simp only [List.length_cons] at h1 h2
    have st := t_afterStep (z := z) (c := c) (s := s) (v := v) (p := p) (A := A) (C := ps.map prD) (fs := fs) (by omega) hf (by simp; omega)
    have un : unTup [4, 5] (.tup [.int (A.length : Nat), v.D]) [.tup fs, z, .int s, .loc 0, a, b, c] = some [.tup fs, z, .int s, .loc 0, .int (A.length : Nat), v.D, c] := rfl
    have fo : forL (unTup [4, 5]) afterB (enumL A.length ((v :: vs).map Lv.D)) [.tup fs, z, .int s, .loc 0, a, b, c] [.lst (A ++ (p :: ps).map prD)] = forK (unTup [4, 5]) afterB (enumL (A.length + 1) (vs.map Lv.D)) (afterB [.tup fs, z, .int s, .loc 0, .int (A.length : Nat), v.D, c] [.lst (A ++ prD p :: ps.map prD)]) := by
      rw [List.map_cons, List.map_cons, enumL_cons, forL_cons un]
    cases hw : rwM v (plusM p s) with
    | none =>
      have e : afterM (v :: vs) (p :: ps) s = (plusM p s :: ps, none) := by unfold afterM; rw [hw]
      rw [e]
      rw [hw] at st
      refine ⟨.int (A.length : Nat), v.D, .non, ?_⟩
      rw [fo, st]; rfl
    | some w =>
      rw [hw] at st
      cases vs with
      | nil =>
        have e : afterM [v] (p :: ps) s = (plusM p s :: ps, some w) := by unfold afterM; rw [hw]
        rw [e]
        simp only [List.length_nil] at h2
        have st : _ = if A.length + 1 = fs.length then SR.rt (.tup [.tup (A ++ prD (plusM p s) :: ps.map prD), .int w]) [.lst (A ++ prD (plusM p s) :: ps.map prD)] else _ := st
        rw [if_pos (by omega)] at st
        show forL _ _ _ _ _ = _
        rw [fo, st]; rfl
      | cons v2 vs =>
        have e : afterM (v :: v2 :: vs) (p :: ps) s = ((0, 0) :: (afterM (v2 :: vs) ps s).1, (afterM (v2 :: vs) ps s).2) := by rw [afterM, hw]
        simp only [List.length_cons] at h2
        have st : _ = if A.length + 1 = fs.length then _ else SR.nx [.tup fs, z, .int s, .loc 0, .int (A.length : Nat), v.D, .int w] [.lst (A ++ prD (0, 0) :: ps.map prD)] := st
        rw [if_neg (by omega)] at st
        have ih := t_afterB (fs := fs) (z := z) (s := s) hf (v2 :: vs) ps (A ++ [prD (0, 0)]) (.int (A.length : Nat)) v.D (.int w) (by simp at h1 ⊢; omega) (by simp; omega)
        rw [e, fo, st]
        cases hr : afterM (v2 :: vs) ps s with
        | mk q r =>
          rw [hr] at ih
          simp only [List.length_append, List.length_cons, List.length_nil, Nat.zero_add, List.append_assoc, List.singleton_append] at ih
          cases r with
          | none => exact ih
          | some w2 => exact ih
theorem t_after {vs : List Lv} {st : List Pr} {s : Int} {S : Sto} (hv : vs.length ≤ 1000) (h : st.length = vs.length) :
    pureF f_after [formD vs, stD st, .int s] S = .ok (.tup [stD (afterM vs st s).1, oI (afterM vs st s).2]) S := by
  refine pure_eq (by simp [lowL, lowD, low_prs]; exact lowL_map Lv.D (fun _ => low_Lv) vs) ?_
  have key := t_afterB (fs := vs.map Lv.D) (z := stD st) (s := s) (by simp; omega) vs st [] .und .und .und h (by simp)
  have f : fit st.length = true := fit_of (by omega)
  unfold f_after fn b_after
  change fnEnd false 0 (sSeq (sAsg 3 (fOpN (oList true) (fCons (fVar 1) (fNil)))) (sSeq (sFor (iOf kEnum (fCons (fVar 0) (fNil))) (unTup [4, 5]) afterB) (sRet (fTup (fCons (fOpN (oTuple) (fCons (fVar 3) (fNil))) (fCons (fCon .non) (fNil)))))) [formD vs, stD st, .int s, .und, .und, .und, .und] []) = _
  have e3 : oList true [stD st] [] = some (.loc 0, [.lst (st.map prD)]) := by
    show mkL true (st.map prD) [] = _
    simp [f]
  have hd : (sSeq (sAsg 3 (fOpN (oList true) (fCons (fVar 1) (fNil)))) (sSeq (sFor (iOf kEnum (fCons (fVar 0) (fNil))) (unTup [4, 5]) afterB) (sRet (fTup (fCons (fOpN (oTuple) (fCons (fVar 3) (fNil))) (fCons (fCon .non) (fNil)))))) [formD vs, stD st, .int s, .und, .und, .und, .und] []) =
    (forL (unTup [4, 5]) afterB (enumL 0 (vs.map Lv.D)) [formD vs, stD st, .int s, .loc 0, .und, .und, .und] [.lst (st.map prD)]).bindN (sRet (fTup (fCons (fOpN (oTuple) (fCons (fVar 3) (fNil))) (fCons (fCon .non) (fNil))))) := by
    simp only [x_seq, x_asg, x_opN, x_cons, x_var, x_nil, List.getElem?_cons_succ, List.getElem?_cons_zero, x_bind, e3, x_outO, x_bindS, x_bindN]
    rfl
  rw [hd]
  cases hr : afterM vs st s with
  | mk q r =>
    have fin : ∀ d : D, pl 2 d = true → fnEnd false 0 (.rt (.tup [stD q, d]) [.lst (q.map prD)]) = .ok (.tup [stD q, d]) [] := fun d hd =>
      end_pl (n := 3) (by simp [pl, plL_cons, plL_nil, hd, pl_st]) (by omega)
    rw [hr] at key
    cases r with
    | none =>
      obtain ⟨a', b', c', key⟩ := key
      simp only [List.nil_append, List.length_nil] at key
      rw [key]
      have := fin .non rfl
      simpa using this
    | some w =>
      simp only [List.nil_append, List.length_nil] at key
      rw [key]
      exact fin (.int w) rfl

end Sf
end

section
set_option Elab.async false
set_option maxRecDepth 100000
set_option linter.all false
set_option maxHeartbeats 4000000
namespace Sf
open PySem L2
/-! while -/
theorem while_go {c : FT} {b : FS} {m : Nat} {env env' : En} {S S' S2 : Sto} (h : c env S = .ok true S2) (h2 : b env S2 = .nx env' S') : whileL c b (m + 1) env S = whileL c b m env' S' := by
  show ((c env S).bindS fun x S1 => bif x then (match b env S1 with
    | .nx env' S' => whileL c b m env' S'
    | .ct env' S' => whileL c b m env' S'
    | .bk env' S' => .nx env' S'
    | r => r) else .nx env S1) = _
  rw [h, x_bindS, cond_true, h2]
theorem while_end {c : FT} {b : FS} {m : Nat} {env : En} {S S2 : Sto} (h : c env S = .ok false S2) : whileL c b (m + 1) env S = .nx env S2 := by
  show ((c env S).bindS fun x S1 => bif x then (match b env S1 with
    | .nx env' S' => whileL c b m env' S'
    | .ct env' S' => whileL c b m env' S'
    | .bk env' S' => .nx env' S'
    | r => r) else .nx env S1) = _
  rw [h, x_bindS, cond_false]

end Sf
end

section
set_option Elab.async false
set_option maxRecDepth 100000
set_option linter.all false
set_option maxHeartbeats 4000000
namespace Sf
open PySem L2
/-! loops, followed by plain steps -/
theorem forP {α σ : Type} {g : D → En → Option En} {b : FS} {enc : α → D} {inv : σ → En → Sto → Prop} {step : σ → α → σ} {L : List α} {s0 : σ}
    (hb : ∀ pre x post, L = pre ++ x :: post → ∀ env S, inv (pre.foldl step s0) env S → ∃ env1 env' S', g (enc x) env = some env1 ∧ b env1 S = .nx env' S' ∧ inv (step (pre.foldl step s0) x) env' S') :
    ∀ (l pre : List α) (env : En) (S : Sto), L = pre ++ l → inv (pre.foldl step s0) env S →
    ∃ env' S', forL g b (l.map enc) env S = .nx env' S' ∧ inv (L.foldl step s0) env' S'
  | [], pre, env, S, e, h => ⟨env, S, rfl, by rw [e, List.append_nil]; exact h⟩
  | x :: l, pre, env, S, e, h => by
    obtain ⟨env1, env', S', e1, e2, h'⟩ := hb pre x l e env S h
    obtain ⟨env2, S2, e3, h2⟩ := forP hb l (pre ++ [x]) env' S' (by rw [e]; simp) (by rw [List.foldl_append]; exact h')
    refine ⟨env2, S2, ?_, h2⟩
    rw [List.map_cons, forL_cons e1, e2]
    exact e3
theorem forE {α σ : Type} {g : D → En → Option En} {b : FS} {enc : α → D} {inv : σ → En → Sto → Prop} {step : σ → α → σ} (l : List α) (s : σ) (env : En) (S : Sto)
    (hb : ∀ x ∈ l, ∀ s env S, inv s env S → ∃ env1 env' S', g (enc x) env = some env1 ∧ b env1 S = .nx env' S' ∧ inv (step s x) env' S') (h : inv s env S) :
    ∃ env' S', forL g b (l.map enc) env S = .nx env' S' ∧ inv (l.foldl step s) env' S' :=
  forP (L := l) (s0 := s) (fun pre x post e env S h => hb x (by rw [e]; simp) _ env S h) l [] env S rfl h
theorem forV_go {g : D → En → Option En} {b : FS} {n k i : Nat} {env env1 env' : En} {S S' : Sto} {l : List D} {d : D} (h : S[n]? = some (.lst l)) (hd : l[i]? = some d) (h1 : g d env = some env1) (h2 : b env1 S = .nx env' S') :
    forV g b n (k + 1) i env S = forV g b n k (i + 1) env' S' := by
  show (match S[n]? with
    | some (.lst l) => match l[i]? with
      | some d => match g d env with
        | none => SR.bad
        | some env1 => match b env1 S with
          | .nx env' S' => forV g b n k (i + 1) env' S'
          | .ct env' S' => forV g b n k (i + 1) env' S'
          | .bk env' S' => .nx env' S'
          | r => r
      | none => .nx env S
    | _ => .bad) = _
  rw [h]; simp only; rw [hd]; simp only; rw [h1]; simp only; rw [h2]
theorem forV_end {g : D → En → Option En} {b : FS} {n k i : Nat} {env : En} {S : Sto} {l : List D} (h : S[n]? = some (.lst l)) (hd : l[i]? = none) : forV g b n (k + 1) i env S = .nx env S := by
  show (match S[n]? with
    | some (.lst l) => match l[i]? with
      | some d => match g d env with
        | none => SR.bad
        | some env1 => match b env1 S with
          | .nx env' S' => forV g b n k (i + 1) env' S'
          | .ct env' S' => forV g b n k (i + 1) env' S'
          | .bk env' S' => .nx env' S'
          | r => r
      | none => .nx env S
    | _ => .bad) = _
  rw [h]; simp only; rw [hd]
theorem forVP {α σ : Type} {g : D → En → Option En} {b : FS} {enc : α → D} {inv : σ → En → Sto → Prop} {step : σ → α → σ} {n : Nat} {L : List α} {s0 : σ}
    (hL : ∀ s env S, inv s env S → S[n]? = some (.lst (L.map enc)))
    (hb : ∀ pre x post, L = pre ++ x :: post → ∀ env S, inv (pre.foldl step s0) env S → ∃ env1 env' S', g (enc x) env = some env1 ∧ b env1 S = .nx env' S' ∧ inv (step (pre.foldl step s0) x) env' S') :
    ∀ (l pre : List α) (env : En) (S : Sto), L = pre ++ l → inv (pre.foldl step s0) env S → ∃ env' S', forV g b n (l.length + 1) pre.length env S = .nx env' S' ∧ inv (L.foldl step s0) env' S'
  | [], pre, env, S, e, h => by
    refine ⟨env, S, forV_end (hL _ _ _ h) ?_, by rw [e, List.append_nil]; exact h⟩
    rw [e]; simp
  | x :: l, pre, env, S, e, h => by
    obtain ⟨env1, env', S', e1, e2, h'⟩ := hb pre x l e env S h
    obtain ⟨env2, S2, e3, h2⟩ := forVP hL hb l (pre ++ [x]) env' S' (by rw [e]; simp) (by rw [List.foldl_append]; exact h')
    refine ⟨env2, S2, ?_, h2⟩
    rw [List.length_cons, forV_go (hL _ _ _ h) (d := enc x) (by rw [e]; simp) e1 e2]
    rw [List.length_append] at e3
    exact e3
/-- a walk over a value or a place -/
theorem forDP {α σ : Type} {a : FE} {g : D → En → Option En} {b : FS} {enc : α → D} {inv : σ → En → Sto → Prop} {step : σ → α → σ} {L : List α} {x : D} {s : σ} {env : En} {S : Sto}
    (ha : a env S = .ok x S) (hx : x = .lst (L.map enc) ∨ ∃ n, x = .loc n ∧ ∀ s env S, inv s env S → S[n]? = some (.lst (L.map enc)))
    (hb : ∀ pre x post, L = pre ++ x :: post → ∀ env S, inv (pre.foldl step s) env S → ∃ env1 env' S', g (enc x) env = some env1 ∧ b env1 S = .nx env' S' ∧ inv (step (pre.foldl step s) x) env' S') (h : inv s env S) :
    ∃ env' S', sForD a g b env S = .nx env' S' ∧ inv (L.foldl step s) env' S' := by
  unfold sForD
  rw [ha]
  rcases hx with rfl | ⟨n, rfl, hn⟩
  · exact forP hb L [] env S rfl h
  · have e := hn _ _ _ h
    obtain ⟨env', S', e1, h1⟩ := forVP hn hb L [] env S rfl h
    refine ⟨env', S', ?_, h1⟩
    show (match S[n]? with
      | some (.lst l) => forV g b n (l.length + 1) 0 env S
      | _ => .bad) = _
    rw [e]
    simp only [List.length_map]
    exact e1
def itn {σ : Type} (f : σ → σ) : Nat → σ → σ
  | 0, s => s
  | n + 1, s => itn f n (f s)
theorem itn_succ {σ : Type} {f : σ → σ} : ∀ (n : Nat) (s : σ), itn f (n + 1) s = f (itn f n s)
  | 0, s => rfl
  | n + 1, s => itn_succ n (f s)
theorem whileP {σ : Type} {c : FT} {b : FS} {inv : σ → En → Sto → Prop} {step : σ → σ} {cont : σ → Bool} {s0 : σ} {n : Nat}
    (hc : ∀ i, i ≤ n → ∀ env S, inv (itn step i s0) env S → c env S = .ok (cont (itn step i s0)) S) (hb : ∀ i, i < n → ∀ env S, inv (itn step i s0) env S → ∃ env' S', b env S = .nx env' S' ∧ inv (itn step (i + 1) s0) env' S')
    (h1 : ∀ i, i < n → cont (itn step i s0) = true) (h2 : cont (itn step n s0) = false) :
    ∀ (m i fuel : Nat) (env : En) (S : Sto), i + m = n → inv (itn step i s0) env S → m < fuel →
    ∃ env' S', whileL c b fuel env S = .nx env' S' ∧ inv (itn step n s0) env' S'
  | 0, i, fuel + 1, env, S, e, h, _ => by
    have : i = n := by omega
    subst this
    exact ⟨env, S, while_end (S2 := S) (by rw [hc i (Nat.le_refl _) env S h]; exact congrArg (Out.ok · S) h2), h⟩
  | m + 1, i, fuel + 1, env, S, e, h, hf => by
    obtain ⟨env1, S1, e1, i1⟩ := hb i (by omega) env S h
    obtain ⟨env', S', e2, i2⟩ := whileP hc hb h1 h2 m (i + 1) fuel env1 S1 (by omega) i1 (by omega)
    refine ⟨env', S', ?_, i2⟩
    rw [while_go (S2 := S) (by rw [hc i (by omega) env S h]; exact congrArg (Out.ok · S) (h1 i (by omega))) e1]
    exact e2

end Sf
end

section
set_option Elab.async false
set_option maxRecDepth 100000
set_option linter.all false
set_option maxHeartbeats 4000000
namespace Sf
open PySem L2
/-! the law's playing -/
def lwon (v : Lv) (a b : Int) : Bool := (decide (v.t ≤ a) && decide (v.l ≤ a - b)) || (match v.c with
  | none => false
  | some c => decide (a = c))
def prL (p : Pr) : D := .lst [.int p.1, .int p.2]
abbrev stL (st : List Pr) : D := .lst (st.map prL)
def ownP (p : Pr) (s : Int) : Int := if s = 0 then p.1 else p.2
def lwonP (v : Lv) (p : Pr) (s : Int) : Bool := lwon v (ownP p s) (ownP p (1 - s))
def afterL : List Lv → List Pr → Int → List Pr × Option Int
  | v :: vs, p :: ps, s => bif lwonP v (plusM p s) s then (match vs with
      | [] => (plusM p s :: ps, some s)
      | vs => ((0, 0) :: (afterL vs ps s).1, (afterL vs ps s).2)) else (plusM p s :: ps, none)
  | _, ps, _ => (ps, none)
@[simp] theorem x_listL {l : List D} {S : Sto} : oList true [.lst l] S = mkL true l S := rfl
@[simp] theorem x_ixn10 : ixN 1 0 = some 0 := rfl
@[simp] theorem x_ixn30 : ixN 3 0 = some 0 := rfl
@[simp] theorem x_ixn31 : ixN 3 1 = some 1 := rfl
@[simp] theorem x_ixn32 : ixN 3 2 = some 2 := rfl
theorem low_prL (st : List Pr) : lowL 0 (st.map prL) = true := lowL_map prL (fun _ => rfl) st
theorem low_pL {p : Pr} : lowD 0 (prL p) = true := rfl
theorem afterL_len : ∀ (vs : List Lv) (st : List Pr) (s : Int), (afterL vs st s).1.length = st.length
  | [], st, s => by cases st <;> simp [afterL]
  | v :: vs, [], s => by simp [afterL]
  | v :: vs, p :: ps, s => by
    unfold afterL
    cases lwonP v (plusM p s) s with
    | false => simp
    | true =>
      cases vs with
      | nil => simp
      | cons v2 vs => simp [afterL_len (v2 :: vs) ps s]
def stepL (vs : List Lv) (x : Play) (s : Int) : Play := match x.w with
  | none => ⟨(afterL vs x.st s).1, (afterL vs x.st s).2, x.m + 1⟩
  | some _ => x
def playL (vs : List Lv) (rs : List Int) : Play := rs.foldl (stepL vs) (start vs)
theorem stepL_len {vs : List Lv} {x : Play} {s : Int} : (stepL vs x s).st.length = x.st.length := by
  unfold stepL; cases x.w with
  | none => simp [afterL_len]
  | some w => rfl
theorem foldL_len {vs : List Lv} : ∀ (rs : List Int) (x : Play), (rs.foldl (stepL vs) x).st.length = x.st.length
  | [], x => rfl
  | s :: rs, x => by rw [List.foldl_cons, foldL_len rs, stepL_len]


end Sf
end

section
set_option Elab.async false
set_option maxRecDepth 100000
set_option linter.all false
set_option maxHeartbeats 4000000
namespace Sf
open PySem L2
/-! plain: the program's play is the law's -/
def NT (v : Lv) (p : Pr) : Prop := ¬ (v.t ≤ p.1 ∧ v.l ≤ p.1 - p.2) ∧ ¬ (v.t ≤ p.2 ∧ v.l ≤ p.2 - p.1) ∧ ∀ c, v.c = some c → p.1 < c ∧ p.2 < c
theorem NT.zero {v : Lv} (h : v.Ok) : NT v (0, 0) := by
  obtain ⟨h1, h2, h3, h4, h5⟩ := h
  refine ⟨by simp; omega, by simp; omega, fun c hc => ?_⟩
  have := h5 c hc
  simp; omega
theorem NT.step {v : Lv} {p : Pr} {s : Int} (h : NT v p) (hl : 1 ≤ v.l) (hs : s = 0 ∨ s = 1) :
    rwM v (plusM p s) = (bif lwonP v (plusM p s) s then some s else none) ∧ (lwonP v (plusM p s) s = false → NT v (plusM p s)) := by
  obtain ⟨t, l, c⟩ := v
  obtain ⟨a, b⟩ := p
  obtain ⟨h1, h2, h3⟩ := h
  simp only at h1 h2 h3 hl
  rcases hs with rfl | rfl
  · cases c with
    | none =>
      simp only [plusM, lwonP, lwon, ownP, rwM, NT]
      by_cases g1 : t ≤ a + 1 <;> by_cases g2 : l ≤ a + 1 - b <;> by_cases g3 : b < a + 1 <;> simp [g1, g2, g3] <;> omega
    | some c =>
      have h3 := h3 c rfl
      simp only [plusM, lwonP, lwon, ownP, rwM, NT]
      by_cases g1 : t ≤ a + 1 <;> by_cases g2 : l ≤ a + 1 - b <;> by_cases g3 : b < a + 1 <;> by_cases g4 : a + 1 = c <;> simp [g1, g2, g3, g4] <;> first | omega | skip
  · cases c with
    | none =>
      simp only [plusM, lwonP, lwon, ownP, rwM, NT]
      by_cases g1 : t ≤ b + 1 <;> by_cases g2 : l ≤ b + 1 - a <;> by_cases g3 : b + 1 < a <;> simp [g1, g2, g3] <;> omega
    | some c =>
      have h3 := h3 c rfl
      simp only [plusM, lwonP, lwon, ownP, rwM, NT]
      by_cases g1 : t ≤ b + 1 <;> by_cases g2 : l ≤ b + 1 - a <;> by_cases g3 : b + 1 < a <;> by_cases g4 : b + 1 = c <;> simp [g1, g2, g3, g4] <;> first | omega | skip
def live : List Lv → List Pr → Prop
  | v :: vs, p :: ps => NT v p ∧ live vs ps
  | _, _ => True
theorem live.start : ∀ {vs : List Lv}, (∀ v ∈ vs, v.Ok) → live vs (List.replicate vs.length (0, 0))
  | [], _ => trivial
  | v :: vs, h => ⟨NT.zero (h v (by simp)), live.start fun v hv => h v (by simp [hv])⟩
theorem live.step : ∀ {vs : List Lv} {ps : List Pr} {s : Int}, live vs ps → (∀ v ∈ vs, v.Ok) → s = 0 ∨ s = 1 →
    afterM vs ps s = afterL vs ps s ∧ ((afterL vs ps s).2 = none → live vs (afterL vs ps s).1) ∧ ∀ w, (afterL vs ps s).2 = some w → w = s
  | [], ps, s, _, _, _ => by simp [afterM, afterL, live]
  | v :: vs, [], s, _, _, _ => by simp [afterM, afterL, live]
  | v :: vs, p :: ps, s, h, hv, hs => by
    obtain ⟨e, n⟩ := NT.step h.1 (hv v (by simp)).2.2.1 hs
    cases hw : lwonP v (plusM p s) s with
    | false =>
      rw [hw] at e n
      unfold afterM afterL
      rw [e, hw]
      exact ⟨rfl, fun _ => ⟨n rfl, h.2⟩, fun w hw => by cases hw⟩
    | true =>
      rw [hw] at e n
      cases vs with
      | nil =>
        unfold afterM afterL
        rw [e, hw]
        simp
      | cons v2 vs =>
        obtain ⟨i1, i2, i3⟩ := live.step (vs := v2 :: vs) h.2 (fun v hv' => hv v (by simp at hv' ⊢; exact .inr hv')) hs
        rw [afterM, afterL, e, hw]
        · simp only [cond_true, i1]
          exact ⟨trivial, fun hw => ⟨NT.zero (hv v (by simp)), i2 hw⟩, fun w hw => i3 w hw⟩
        all_goals (intro h; cases h)
/-- the play so far -/
structure Sofar (vs : List Lv) (rs : List Int) (x : Play) : Prop where
  no : x.w = none → x.m = rs.length ∧ live vs x.st
  yes : ∀ k, x.w = some k → 1 ≤ x.m ∧ x.m ≤ rs.length ∧ rs[(x.m - 1).toNat]? = some k ∧ (playM vs (rs.take (x.m - 1).toNat)).w = none
theorem playM_snoc {vs : List Lv} {rs : List Int} {s : Int} : playM vs (rs ++ [s]) = stepM vs (playM vs rs) s := by unfold playM; rw [List.foldl_append]; rfl
theorem playL_snoc {vs : List Lv} {rs : List Int} {s : Int} : playL vs (rs ++ [s]) = stepL vs (playL vs rs) s := by unfold playL; rw [List.foldl_append]; rfl
theorem sofar {vs : List Lv} (hv : ∀ v ∈ vs, v.Ok) : ∀ (n : Nat) (rs : List Int), rs.length = n → (∀ r ∈ rs, r = 0 ∨ r = 1) → playM vs rs = playL vs rs ∧ Sofar vs rs (playM vs rs)
  | 0, [], _, _ => ⟨rfl, ⟨fun _ => ⟨rfl, live.start hv⟩, fun k h => by cases h⟩⟩
  | n + 1, rs, hl, hr => by
    obtain ⟨ss, s, rfl⟩ : ∃ ss s, rs = ss ++ [s] := ⟨rs.dropLast, rs.getLast (by intro h; subst h; simp at hl), (List.dropLast_concat_getLast _).symm⟩
    have hs : s = 0 ∨ s = 1 := hr s (by simp)
    obtain ⟨e, I⟩ := sofar hv n ss (by simpa using hl) (fun r h => hr r (by simp [h]))
    rw [playM_snoc, playL_snoc, ← e]
    cases hw : (playM vs ss).w with
    | none =>
      obtain ⟨hm, lv⟩ := I.no hw
      obtain ⟨e2, l2, l3⟩ := live.step lv hv hs
      unfold stepM stepL
      rw [hw]
      simp only [e2]
      refine ⟨trivial, ⟨fun h => ⟨by simp [hm], l2 h⟩, fun k h => ?_⟩⟩
      have := l3 k h
      subst this
      simp only [hm]
      refine ⟨by omega, by simp, ?_, ?_⟩
      · rw [show ((ss.length : Int) + 1 - 1).toNat = ss.length by omega]; simp
      · rw [show ((ss.length : Int) + 1 - 1).toNat = ss.length by omega]; simp [hw]
    | some k =>
      obtain ⟨h1, h2, h3, h4⟩ := I.yes k hw
      unfold stepM stepL
      rw [hw]
      refine ⟨rfl, ⟨fun h => ?_, fun k' h => ?_⟩⟩
      · simp only [hw] at h; cases h
      · simp only [hw] at h; cases h
        refine ⟨h1, by simp; omega, ?_, ?_⟩
        · simp only
          rw [List.getElem?_append_left (by omega)]; exact h3
        · simp only
          rw [List.take_append_of_le_length (by omega)]; exact h4

end Sf
end

section
set_option Elab.async false
set_option maxRecDepth 100000
set_option linter.all false
set_option maxHeartbeats 4000000
namespace Sf
open PySem L2
/-! the points that a side needs -/
def othP (p : Pr) (s : Int) : Int := if s = 0 then p.2 else p.1
def need (v : Lv) (p : Pr) (s : Int) : Int := match v.c with
  | none => max (v.t - ownP p s) (v.l - ownP p s + othP p s)
  | some c => min (max (v.t - ownP p s) (v.l - ownP p s + othP p s)) (c - ownP p s)
def NN : List Lv → List Pr → Int → Int
  | v :: vs, p :: ps, s => need v p s + need v (0, 0) s * (NN vs ps s - 1)
  | _, _, _ => 1
theorem need_pos {v : Lv} {p : Pr} {s : Int} (h : NT v p) (hs : s = 0 ∨ s = 1) : 1 ≤ need v p s := by
  obtain ⟨t, l, c⟩ := v
  obtain ⟨a, b⟩ := p
  obtain ⟨h1, h2, h3⟩ := h
  simp only at h1 h2 h3
  cases c with
  | none => rcases hs with rfl | rfl <;> simp [need, ownP, othP] <;> omega
  | some c =>
    have h3 := h3 c rfl
    rcases hs with rfl | rfl <;> simp [need, ownP, othP] <;> omega
theorem need_step {v : Lv} {p : Pr} {s : Int} (hs : s = 0 ∨ s = 1) : need v (plusM p s) s = need v p s - 1 := by
  obtain ⟨t, l, c⟩ := v
  obtain ⟨a, b⟩ := p
  cases c <;> rcases hs with rfl | rfl <;> simp [need, ownP, othP, plusM] <;> omega
theorem need_won {v : Lv} {p : Pr} {s : Int} (h : NT v p) (hl : 1 ≤ v.l) (hs : s = 0 ∨ s = 1) : lwonP v (plusM p s) s = decide (need v p s = 1) := by
  obtain ⟨t, l, c⟩ := v
  obtain ⟨a, b⟩ := p
  obtain ⟨h1, h2, h3⟩ := h
  simp only at h1 h2 h3 hl
  cases c with
  | none => rcases hs with rfl | rfl <;> simp [need, ownP, othP, plusM, lwonP, lwon, ← Bool.decide_and] <;> omega
  | some c =>
    have h3 := h3 c rfl
    rcases hs with rfl | rfl <;> simp [need, ownP, othP, plusM, lwonP, lwon, ← Bool.decide_and, ← Bool.decide_or] <;> omega
theorem NN_pos : ∀ {vs : List Lv} {ps : List Pr} {s : Int}, live vs ps → (∀ v ∈ vs, v.Ok) → s = 0 ∨ s = 1 → 1 ≤ NN vs ps s
  | [], ps, s, _, _, _ => by simp [NN]
  | v :: vs, [], s, _, _, _ => by simp [NN]
  | v :: vs, p :: ps, s, h, hv, hs => by
    have h1 := need_pos h.1 hs
    have h2 := need_pos (NT.zero (hv v (by simp))) hs
    have h3 := NN_pos h.2 (fun v hv' => hv v (by simp [hv'])) hs
    unfold NN
    have : 0 ≤ need v (0, 0) s * (NN vs ps s - 1) := Int.mul_nonneg (by omega) (by omega)
    omega
/-- one more point: one less is needed -/
theorem NN_step : ∀ {vs : List Lv} {ps : List Pr} {s : Int}, live vs ps → (∀ v ∈ vs, v.Ok) → s = 0 ∨ s = 1 → 1 ≤ vs.length → ps.length = vs.length →
    ((afterL vs ps s).2 = none → NN vs (afterL vs ps s).1 s = NN vs ps s - 1) ∧ ((afterL vs ps s).2 = none ↔ 1 < NN vs ps s)
  | [], ps, s, _, _, _, h, _ => by simp at h
  | v :: vs, [], s, _, _, _, _, h => by simp at h
  | v :: vs, p :: ps, s, h, hv, hs, _, hl => by
    have hv0 := hv v (by simp)
    have h1 := need_pos h.1 hs
    have h2 := need_pos (NT.zero hv0) hs
    have hw := need_won h.1 hv0.2.2.1 hs
    have h3 := NN_pos h.2 (fun v hv' => hv v (by simp [hv'])) hs
    have h4 : 0 ≤ need v (0, 0) s * (NN vs ps s - 1) := Int.mul_nonneg (by omega) (by omega)
    by_cases hn : need v p s = 1
    · rw [decide_eq_true hn] at hw
      cases vs with
      | nil =>
        have e : afterL [v] (p :: ps) s = (plusM p s :: ps, some s) := by unfold afterL; rw [hw]; rfl
        rw [e]
        have e2 : NN [v] (p :: ps) s = need v p s + need v (0, 0) s * (1 - 1) := by simp [NN]
        rw [e2, hn]
        simp
      | cons v2 vs =>
        have e : afterL (v :: v2 :: vs) (p :: ps) s = ((0, 0) :: (afterL (v2 :: vs) ps s).1, (afterL (v2 :: vs) ps s).2) := by
          rw [afterL, hw]
          · rfl
          · intro h; cases h
        obtain ⟨i1, i2⟩ := NN_step (vs := v2 :: vs) h.2 (fun v hv' => hv v (by simp at hv' ⊢; exact .inr hv')) hs (by simp) (by simpa using hl)
        rw [e]
        have e1 : ∀ q qs, NN (v :: v2 :: vs) (q :: qs) s = need v q s + need v (0, 0) s * (NN (v2 :: vs) qs s - 1) := fun q qs => by rw [NN]
        rw [e1, e1]
        simp only
        refine ⟨fun hn' => ?_, ?_⟩
        · rw [i1 hn', hn]
          have : need v (0, 0) s * (NN (v2 :: vs) ps s - 1 - 1) = need v (0, 0) s * (NN (v2 :: vs) ps s - 1) - need v (0, 0) s := by rw [Int.mul_sub, Int.mul_one]
          omega
        · rw [i2, hn]
          constructor
          · intro g
            have : 0 < need v (0, 0) s * (NN (v2 :: vs) ps s - 1) := Int.mul_pos (by omega) (by omega)
            omega
          · intro g
            by_cases g2 : 1 < NN (v2 :: vs) ps s
            · exact g2
            · exfalso
              have e3 : NN (v2 :: vs) ps s - 1 = 0 := by omega
              rw [e3] at g; simp at g
    · rw [decide_eq_false hn] at hw
      have e : afterL (v :: vs) (p :: ps) s = (plusM p s :: ps, none) := by unfold afterL; rw [hw]; rfl
      rw [e]
      refine ⟨fun _ => ?_, ⟨fun _ => ?_, fun _ => rfl⟩⟩
      · simp only
        unfold NN
        rw [need_step hs]; omega
      · unfold NN; omega
/-- the pairs are not great -/
def Bnd (m : Int) (st : List Pr) : Prop := ∀ p ∈ st, 0 ≤ p.1 ∧ p.1 ≤ m ∧ 0 ≤ p.2 ∧ p.2 ≤ m
theorem Bnd.plus {m : Int} {p : Pr} {s : Int} (h : 0 ≤ p.1 ∧ p.1 ≤ m ∧ 0 ≤ p.2 ∧ p.2 ≤ m) : 0 ≤ (plusM p s).1 ∧ (plusM p s).1 ≤ m + 1 ∧ 0 ≤ (plusM p s).2 ∧ (plusM p s).2 ≤ m + 1 := by
  unfold plusM; split <;> simp <;> omega
theorem Bnd.mono {m n : Int} {st : List Pr} (h : Bnd m st) (hm : m ≤ n) : Bnd n st := fun p hp => by have := h p hp; omega
theorem Bnd.step {m : Int} (hm : 0 ≤ m) : ∀ {vs : List Lv} {ps : List Pr} {s : Int}, Bnd m ps → Bnd (m + 1) (afterL vs ps s).1
  | [], ps, s, h => by unfold afterL; exact h.mono (by omega)
  | v :: vs, [], s, h => by intro p hp; simp [afterL] at hp
  | v :: vs, p :: ps, s, h => by
    have hp := Bnd.plus (s := s) (h p (by simp))
    have ht : Bnd m ps := fun q hq => h q (by simp [hq])
    cases hw : lwonP v (plusM p s) s with
    | false =>
      have e : afterL (v :: vs) (p :: ps) s = (plusM p s :: ps, none) := by unfold afterL; rw [hw]; rfl
      rw [e]
      intro q hq
      rcases List.mem_cons.mp hq with rfl | hq
      · exact hp
      · have := ht q hq; omega
    | true =>
      cases vs with
      | nil =>
        have e : afterL [v] (p :: ps) s = (plusM p s :: ps, some s) := by unfold afterL; rw [hw]; rfl
        rw [e]
        intro q hq
        rcases List.mem_cons.mp hq with rfl | hq
        · exact hp
        · have := ht q hq; omega
      | cons v2 vs =>
        have e : afterL (v :: v2 :: vs) (p :: ps) s = ((0, 0) :: (afterL (v2 :: vs) ps s).1, (afterL (v2 :: vs) ps s).2) := by
          rw [afterL, hw]
          · rfl
          · intro h; cases h
        rw [e]
        intro q hq
        rcases List.mem_cons.mp hq with rfl | hq
        · simp; omega
        · exact Bnd.step hm ht q hq
theorem need_le {v : Lv} {p : Pr} {s m : Int} (hv : v.Ok) (hp : 0 ≤ p.1 ∧ p.1 ≤ m ∧ 0 ≤ p.2 ∧ p.2 ≤ m) : need v p s ≤ 5 + m := by
  obtain ⟨t, l, c⟩ := v
  obtain ⟨a, b⟩ := p
  obtain ⟨h1, h2, h3, h4, h5⟩ := hv
  simp only at h1 h2 h3 h4 h5 hp
  cases c with
  | none => simp only [need, ownP, othP]; split <;> omega
  | some c => simp only [need, ownP, othP]; split <;> omega
theorem NN_le {m : Int} (hm : 0 ≤ m) : ∀ {vs : List Lv} {ps : List Pr} {s : Int}, (∀ v ∈ vs, v.Ok) → live vs ps → s = 0 ∨ s = 1 → Bnd m ps → NN vs ps s ≤ (6 + m) * 6 ^ vs.length
  | [], ps, s, _, _, _, _ => by simp [NN]; omega
  | v :: vs, [], s, _, _, _, _ => by
    have : (1 : Int) ≤ (6 + m) * 6 ^ (v :: vs).length := by
      have : (0 : Int) < (6 + m) * 6 ^ (v :: vs).length := Int.mul_pos (by omega) (Int.pow_pos (by omega))
      omega
    simpa [NN] using this
  | v :: vs, p :: ps, s, hv, hl, hs, hb => by
    have h1 := need_le (s := s) (hv v (by simp)) (hb p (by simp))
    have h2 := need_le (s := s) (m := 0) (p := (0, 0)) (hv v (by simp)) (by simp)
    have h0 := need_pos (s := s) (NT.zero (hv v (by simp))) hs
    have h3 := NN_le hm (vs := vs) (ps := ps) (s := s) (fun v hv' => hv v (by simp [hv'])) hl.2 hs (fun q hq => hb q (by simp [hq]))
    have h4 := NN_pos hl.2 (fun v hv' => hv v (by simp [hv'])) hs
    have h5 : need v (0, 0) s * (NN vs ps s - 1) ≤ 5 * (NN vs ps s - 1) := Int.mul_le_mul_of_nonneg_right (by omega) (by omega)
    unfold NN
    rw [List.length_cons, Int.pow_succ, ← Int.mul_assoc]
    have h6 : (6 + m) ≤ (6 + m) * 6 ^ vs.length := by
      have : (1 : Int) ≤ 6 ^ vs.length := by have : (0 : Int) < 6 ^ vs.length := Int.pow_pos (by omega); omega
      calc (6 + m) = (6 + m) * 1 := by omega
        _ ≤ (6 + m) * 6 ^ vs.length := Int.mul_le_mul_of_nonneg_left this (by omega)
    omega

end Sf
end

section
set_option Elab.async false
set_option maxRecDepth 100000
set_option linter.all false
set_option maxHeartbeats 4000000
namespace Sf
open PySem L2
/-! matches: rows at whose last point the play ends; a form cut in two -/
def runL (vs : List Lv) (x : Play) (rs : List Int) : Play := rs.foldl (stepL vs) x
def zer (vs : List Lv) : List Pr := List.replicate vs.length (0, 0)
abbrev Sides (rs : List Int) : Prop := ∀ r ∈ rs, r = 0 ∨ r = 1
theorem runL_nil {vs : List Lv} {x : Play} : runL vs x [] = x := rfl
theorem runL_cons {vs : List Lv} {x : Play} {s : Int} {rs : List Int} : runL vs x (s :: rs) = runL vs (stepL vs x s) rs := rfl
theorem runL_app {vs : List Lv} {x : Play} {rs qs : List Int} : runL vs x (rs ++ qs) = runL vs (runL vs x rs) qs := List.foldl_append
theorem stepL_some {vs : List Lv} {x : Play} {s w : Int} (h : x.w = some w) : stepL vs x s = x := by unfold stepL; rw [h]
theorem stepL_none {vs : List Lv} {x : Play} {s : Int} (h : x.w = none) : stepL vs x s = ⟨(afterL vs x.st s).1, (afterL vs x.st s).2, x.m + 1⟩ := by unfold stepL; rw [h]
theorem runL_some {vs : List Lv} {x : Play} {w : Int} (h : x.w = some w) : ∀ rs : List Int, runL vs x rs = x
  | [] => rfl
  | s :: rs => by rw [runL_cons, stepL_some h, runL_some h rs]
theorem playL_run {vs : List Lv} {rs : List Int} : playL vs rs = runL vs ⟨zer vs, none, 0⟩ rs := rfl
theorem afterL_w : ∀ {vs : List Lv} {st : List Pr} {s w : Int}, (afterL vs st s).2 = some w → w = s
  | [], st, s, w, h => by cases st <;> simp [afterL] at h
  | v :: vs, [], s, w, h => by simp [afterL] at h
  | v :: vs, p :: ps, s, w, h => by
    unfold afterL at h
    cases hw : lwonP v (plusM p s) s with
    | false => rw [hw] at h; simp at h
    | true =>
      rw [hw] at h
      cases vs with
      | nil => simp at h; exact h.symm
      | cons v2 vs => simp at h; exact afterL_w h
theorem afterL_app : ∀ {F G : List Lv} {st ps : List Pr} {s : Int}, F ≠ [] → G ≠ [] → st.length = F.length →
    afterL (F ++ G) (st ++ ps) s = match (afterL F st s).2 with
      | none => ((afterL F st s).1 ++ ps, none)
      | some u => (zer F ++ (afterL G ps u).1, (afterL G ps u).2)
  | [], G, st, ps, s, h, _, _ => absurd rfl h
  | v :: F, G, [], ps, s, _, _, h => by simp at h
  | [v], g :: G, [p], ps, s, _, _, _ => by
    cases hw : lwonP v (plusM p s) s with
    | false => simp [afterL, hw]
    | true => simp [afterL, hw, zer]
  | [v], G, p :: q :: st, ps, s, _, _, h => by simp at h
  | [v], [], [p], ps, s, _, h, _ => absurd rfl h
  | v :: v2 :: F, G, p :: st, ps, s, _, hG, h => by
    have ih := afterL_app (F := v2 :: F) (G := G) (st := st) (ps := ps) (s := s) (by simp) hG (by simpa using h)
    cases hw : lwonP v (plusM p s) s with
    | false => simp [afterL, hw]
    | true =>
      have e1 : afterL (v :: v2 :: F) (p :: st) s = ((0, 0) :: (afterL (v2 :: F) st s).1, (afterL (v2 :: F) st s).2) := by
        rw [afterL, hw]
        · rfl
        · intro h; cases h
      have e2 : afterL ((v :: v2 :: F) ++ G) ((p :: st) ++ ps) s = ((0, 0) :: (afterL ((v2 :: F) ++ G) (st ++ ps) s).1, (afterL ((v2 :: F) ++ G) (st ++ ps) s).2) := by
        show afterL (v :: v2 :: (F ++ G)) (p :: (st ++ ps)) s = _
        rw [afterL, hw]
        · rfl
        · intro h; cases h
      rw [e1, e2, ih]
      cases hq : (afterL (v2 :: F) st s).2 with
      | none => simp [hq]
      | some u => simp [hq, zer, List.replicate_succ]
/-- the lower levels go on -/
theorem run_low {F G : List Lv} {ps : List Pr} (hF : F ≠ []) (hG : G ≠ []) : ∀ (rs : List Int) (st : List Pr) (m k : Int), st.length = F.length → (runL F ⟨st, none, k⟩ rs).w = none →
    runL (F ++ G) ⟨st ++ ps, none, m⟩ rs = ⟨(runL F ⟨st, none, k⟩ rs).st ++ ps, none, m + rs.length⟩
  | [], st, m, k, _, _ => by simp [runL_nil]
  | s :: rs, st, m, k, hl, h => by
    rw [runL_cons, stepL_none rfl] at h
    simp only at h
    cases hw : (afterL F st s).2 with
    | some w => rw [hw] at h; rw [runL_some rfl] at h; cases h
    | none =>
      rw [hw] at h
      have ea := afterL_app (s := s) (ps := ps) hF hG hl
      rw [hw] at ea
      rw [runL_cons, stepL_none rfl]
      simp only [ea]
      rw [run_low hF hG rs _ _ (k + 1) (by rw [afterL_len]; exact hl) h, runL_cons, stepL_none rfl]
      simp only [hw, List.length_cons]
      congr 1
      omega
/-- a row at whose last point the play ends -/
structure Mt (vs : List Lv) (s : Int) (rs : List Int) : Prop where
  w : (playL vs rs).w = some s
  b : (playL vs rs.dropLast).w = none
theorem Mt.ne {vs : List Lv} {s : Int} {rs : List Int} (h : Mt vs s rs) : rs ≠ [] := by
  rintro rfl
  have := h.w
  simp [playL, start] at this
theorem Mt.split {vs : List Lv} {s : Int} {rs : List Int} (h : Mt vs s rs) : rs = rs.dropLast ++ [s] := by
  have e := (List.dropLast_concat_getLast h.ne).symm
  have hw := h.w
  rw [e, playL_snoc, stepL_none h.b] at hw
  have := afterL_w hw
  rw [← this] at e
  exact e
theorem run_unit {F G : List Lv} {ps : List Pr} {u : Int} {rs : List Int} {m : Int} (hF : F ≠ []) (hG : G ≠ []) (h : Mt F u rs) :
    runL (F ++ G) ⟨zer F ++ ps, none, m⟩ rs = ⟨zer F ++ (afterL G ps u).1, (afterL G ps u).2, m + rs.length⟩ := by
  have e := h.split
  have hb := h.b
  rw [playL_run] at hb
  have hl := run_low (ps := ps) hF hG rs.dropLast (zer F) m 0 (by simp [zer]) hb
  have hw : (afterL F (runL F ⟨zer F, none, 0⟩ rs.dropLast).st u).2 = some u := by
    have := h.w
    rw [e, playL_snoc, stepL_none h.b] at this
    exact this
  have hz : (runL F ⟨zer F, none, 0⟩ rs.dropLast).st.length = F.length := by unfold runL; rw [foldL_len]; simp [zer]
  have ea := afterL_app (s := u) (ps := ps) hF hG hz
  rw [hw] at ea
  have hn := h.ne
  conv => lhs; rw [e]
  rw [runL_app, hl, runL_cons, stepL_none rfl, runL_nil]
  simp only [ea]
  congr 1
  have : rs.length = rs.dropLast.length + 1 := by
    rw [List.length_dropLast]
    have := List.length_pos_iff.mpr hn
    omega
  omega
/-- many units, one after another -/
theorem run_units {F G : List Lv} (hF : F ≠ []) (hG : G ≠ []) : ∀ (bs : List (List Int × Int)) (ps : List Pr) (w : Option Int) (m k : Int), (∀ b ∈ bs, Mt F b.2 b.1) →
    (runL (F ++ G) ⟨zer F ++ ps, w, m⟩ (bs.map (·.1)).flatten).st = zer F ++ (runL G ⟨ps, w, k⟩ (bs.map (·.2))).st ∧ (runL (F ++ G) ⟨zer F ++ ps, w, m⟩ (bs.map (·.1)).flatten).w = (runL G ⟨ps, w, k⟩ (bs.map (·.2))).w
  | [], ps, w, m, k, _ => ⟨rfl, rfl⟩
  | b :: bs, ps, some w, m, k, _ => by rw [runL_some rfl, runL_some rfl]; exact ⟨rfl, rfl⟩
  | b :: bs, ps, none, m, k, h => by
    rw [List.map_cons, List.map_cons, List.flatten_cons, runL_app, run_unit hF hG (h b (by simp)), runL_cons, stepL_none rfl]
    exact run_units hF hG bs _ _ _ _ fun b hb => h b (by simp [hb])
/-- a row cut into units of the lower levels, and what is left -/
def cutU (F : List Lv) : List Int → List (List Int × Int) × List Int
  | rs => rs.foldl (fun x s => match (playL F (x.2 ++ [s])).w with
    | some u => (x.1 ++ [(x.2 ++ [s], u)], [])
    | none => (x.1, x.2 ++ [s])) ([], [])
theorem cutU_nil {F : List Lv} : cutU F [] = ([], []) := rfl
theorem cutU_snoc {F : List Lv} {rs : List Int} {s : Int} : cutU F (rs ++ [s]) = match (playL F ((cutU F rs).2 ++ [s])).w with
    | some u => ((cutU F rs).1 ++ [((cutU F rs).2 ++ [s], u)], [])
    | none => ((cutU F rs).1, (cutU F rs).2 ++ [s]) := by unfold cutU; rw [List.foldl_append]; rfl
theorem snoc_ind {α : Type} {P : List α → Prop} (h0 : P []) (h1 : ∀ l a, P l → P (l ++ [a])) (l : List α) : P l := by
  have : ∀ n (l : List α), l.length = n → P l := by
    intro n
    induction n with
    | zero => intro l hl; rw [List.eq_nil_of_length_eq_zero hl]; exact h0
    | succ n ih =>
      intro l hl
      have hne : l ≠ [] := by intro h; subst h; simp at hl
      rw [← List.dropLast_concat_getLast hne]
      exact h1 _ _ (ih _ (by rw [List.length_dropLast]; omega))
  exact this _ l rfl
structure CutOk (F : List Lv) (rs : List Int) (x : List (List Int × Int) × List Int) : Prop where
  e : rs = (x.1.map (·.1)).flatten ++ x.2
  u : ∀ b ∈ x.1, Mt F b.2 b.1
  p : (playL F x.2).w = none
theorem cutU_ok {F : List Lv} (rs : List Int) : CutOk F rs (cutU F rs) := by
  induction rs using snoc_ind with
  | h0 => exact ⟨rfl, by simp [cutU_nil], rfl⟩
  | h1 rs s ih =>
    rw [cutU_snoc]
    cases hw : (playL F ((cutU F rs).2 ++ [s])).w with
    | none => exact ⟨by simp only; rw [← List.append_assoc, ← ih.e], ih.u, hw⟩
    | some u =>
      refine ⟨?_, fun b hb => ?_, rfl⟩
      · simp only [List.map_append, List.map_cons, List.map_nil, List.flatten_append, List.flatten_cons, List.flatten_nil, List.append_nil]
        rw [← List.append_assoc, ← ih.e]
      · rcases List.mem_append.mp hb with hb | hb
        · exact ih.u b hb
        · simp at hb; subst hb
          exact ⟨hw, by simpa using ih.p⟩
/-- the play of a form cut in two -/
theorem play_cut {F G : List Lv} (hF : F ≠ []) (hG : G ≠ []) (rs : List Int) :
    (playL (F ++ G) rs).w = (playL G ((cutU F rs).1.map (·.2))).w ∧ ((playL G ((cutU F rs).1.map (·.2))).w = none → (playL (F ++ G) rs).st = (playL F (cutU F rs).2).st ++ (playL G ((cutU F rs).1.map (·.2))).st) := by
  have c := cutU_ok (F := F) rs
  have hz : zer (F ++ G) = zer F ++ zer G := by unfold zer; rw [List.length_append, List.replicate_append_replicate]
  obtain ⟨e1, e2⟩ := run_units hF hG (cutU F rs).1 (zer G) none 0 0 c.u
  have e0 : playL (F ++ G) rs = runL (F ++ G) (runL (F ++ G) ⟨zer F ++ zer G, none, 0⟩ ((cutU F rs).1.map (·.1)).flatten) (cutU F rs).2 := by
    conv => lhs; rw [c.e]
    rw [playL_run, hz, runL_app]
  rw [← playL_run] at e1 e2
  cases hw : (playL G ((cutU F rs).1.map (·.2))).w with
  | some w =>
    rw [hw] at e2
    refine ⟨?_, fun h => by cases h⟩
    rw [e0, runL_some e2, e2]
  | none =>
    rw [hw] at e2
    have hp := c.p
    rw [playL_run] at hp
    obtain ⟨x, hx⟩ : ∃ x, runL (F ++ G) ⟨zer F ++ zer G, none, 0⟩ ((cutU F rs).1.map (·.1)).flatten = x := ⟨_, rfl⟩
    rw [hx] at e1 e2 e0
    obtain ⟨st, w, m⟩ := x
    simp only at e1 e2
    subst e1 e2
    have := run_low (ps := (playL G ((cutU F rs).1.map (·.2))).st) hF hG (cutU F rs).2 (zer F) m 0 (by simp [zer]) hp
    rw [e0, this]
    exact ⟨rfl, fun _ => rfl⟩
theorem cutU_of {F : List Lv} : ∀ (bs : List (List Int × Int)), (∀ b ∈ bs, Mt F b.2 b.1) → ∀ part : List Int, (playL F part).w = none → cutU F ((bs.map (·.1)).flatten ++ part) = (bs, part) := by
  have pre : ∀ (l l2 : List Int), (playL F (l ++ l2)).w = none → (playL F l).w = none := by
    intro l l2 h
    cases hw : (playL F l).w with
    | none => rfl
    | some w =>
      rw [playL_run, runL_app, ← playL_run, runL_some hw, hw] at h
      cases h
  have tail : ∀ (rs : List Int) (bs : List (List Int × Int)), cutU F rs = (bs, []) → ∀ part : List Int, (playL F part).w = none → cutU F (rs ++ part) = (bs, part) := by
    intro rs bs h part
    induction part using snoc_ind with
    | h0 => intro _; simpa using h
    | h1 part s ih =>
      intro hp
      have hq := pre _ _ hp
      rw [← List.append_assoc, cutU_snoc, ih hq]
      simp only
      rw [hp]
  intro bs
  induction bs using snoc_ind with
  | h0 => intro _ part hp; exact tail [] [] rfl part hp
  | h1 bs b ih =>
    intro h part hp
    refine tail _ _ ?_ part hp
    have hb := h b (by simp)
    have i := ih (fun b hb => h b (by simp [hb])) b.1.dropLast hb.b
    have e := hb.split
    simp only [List.map_append, List.map_cons, List.map_nil, List.flatten_append, List.flatten_cons, List.flatten_nil, List.append_nil]
    rw [e, ← List.append_assoc, cutU_snoc, i]
    simp only
    rw [← e, hb.w]
theorem play_pre {F : List Lv} {l l2 : List Int} (h : (playL F (l ++ l2)).w = none) : (playL F l).w = none := by
  cases hw : (playL F l).w with
  | none => rfl
  | some w =>
    rw [playL_run, runL_app, ← playL_run, runL_some hw, hw] at h
    cases h
/-- units that are a match make a match -/
theorem Mt.join {F G : List Lv} {s : Int} {bs : List (List Int × Int)} (hF : F ≠ []) (hG : G ≠ []) (hb : ∀ b ∈ bs, Mt F b.2 b.1) (h : Mt G s (bs.map (·.2))) : Mt (F ++ G) s (bs.map (·.1)).flatten := by
  have hne : bs ≠ [] := by rintro rfl; exact h.ne rfl
  have e := (List.dropLast_concat_getLast hne).symm
  obtain ⟨cs, b, rfl⟩ : ∃ cs b, bs = cs ++ [b] := ⟨_, _, e⟩
  have hbb := hb b (by simp)
  refine ⟨?_, ?_⟩
  · have c := cutU_of (cs ++ [b]) hb [] rfl
    rw [List.append_nil] at c
    rw [(play_cut hF hG _).1, c]
    exact h.w
  · have e1 : ((cs ++ [b]).map (·.1)).flatten.dropLast = (cs.map (·.1)).flatten ++ b.1.dropLast := by
      simp only [List.map_append, List.map_cons, List.map_nil, List.flatten_append, List.flatten_cons, List.flatten_nil, List.append_nil]
      rw [List.dropLast_append_of_ne_nil hbb.ne]
    rw [e1, (play_cut hF hG _).1, cutU_of cs (fun b hb' => hb b (by simp [hb'])) _ hbb.b]
    have := h.b
    simpa using this
/-- a match is units that are a match -/
theorem Mt.cut {F G : List Lv} {s : Int} {rs : List Int} (hF : F ≠ []) (hG : G ≠ []) (h : Mt (F ++ G) s rs) : ∃ bs : List (List Int × Int), rs = (bs.map (·.1)).flatten ∧ (∀ b ∈ bs, Mt F b.2 b.1) ∧ Mt G s (bs.map (·.2)) := by
  have hw := h.w
  have hb := h.b
  have e := h.split
  rw [(play_cut hF hG _).1] at hw hb
  have c := cutU_ok (F := F) rs
  have c' := cutU_ok (F := F) rs.dropLast
  have es : cutU F rs = match (playL F ((cutU F rs.dropLast).2 ++ [s])).w with
    | some u => ((cutU F rs.dropLast).1 ++ [((cutU F rs.dropLast).2 ++ [s], u)], [])
    | none => ((cutU F rs.dropLast).1, (cutU F rs.dropLast).2 ++ [s]) := by
    conv => lhs; rw [e]
    exact cutU_snoc
  cases hu : (playL F ((cutU F rs.dropLast).2 ++ [s])).w with
  | none =>
    rw [hu] at es
    rw [es] at hw
    simp only at hw
    rw [hb] at hw; cases hw
  | some u =>
    rw [hu] at es
    refine ⟨(cutU F rs).1, ?_, c.u, hw, ?_⟩
    · have := c.e
      rw [es] at this ⊢
      simpa using this
    · rw [es]
      simpa using hb

end Sf
end

section
set_option Elab.async false
set_option maxRecDepth 100000
set_option linter.all false
set_option maxHeartbeats 4000000
namespace Sf
open PySem L2
/-! one level: what ends it; the least and most units -/
structure RL (v : Lv) (p : Pr) : Prop where
  a : 0 ≤ p.1
  b : 0 ≤ p.2
  nt : NT v p
  one : v.l = 1 → p.1 < v.t ∧ p.2 < v.t
theorem RL.zero {v : Lv} (h : v.Ok) : RL v (0, 0) := ⟨by simp, by simp, NT.zero h, fun _ => by have := h.1; simp; omega⟩
theorem RL.step {v : Lv} {p : Pr} {s : Int} (h : RL v p) (hv : v.Ok) (hs : s = 0 ∨ s = 1) (hw : lwonP v (plusM p s) s = false) : RL v (plusM p s) := by
  obtain ⟨h1, h2, h3, h4⟩ := h
  refine ⟨?_, ?_, (NT.step h3 hv.2.2.1 hs).2 hw, fun hl => ?_⟩
  · unfold plusM; split <;> simp <;> omega
  · unfold plusM; split <;> simp <;> omega
  · have h4 := h4 hl
    obtain ⟨t, l, c⟩ := v
    simp only at hl h4
    subst hl
    rcases hs with rfl | rfl
    · simp [lwonP, lwon, plusM, ownP] at hw ⊢
      have := hw.1; omega
    · simp [lwonP, lwon, plusM, ownP] at hw ⊢
      have := hw.1; omega
def cntP (rs : List Int) : Pr := ((rs.count 0 : Nat), (rs.count 1 : Nat))
theorem cntP_snoc {rs : List Int} {s : Int} (hs : s = 0 ∨ s = 1) : cntP (rs ++ [s]) = plusM (cntP rs) s := by
  rcases hs with rfl | rfl <;> simp [cntP, plusM, List.count_append]
theorem one_play {v : Lv} (hv : v.Ok) (rs : List Int) (hs : Sides rs) (h : (playL [v] rs).w = none) : (playL [v] rs).st = [cntP rs] ∧ RL v (cntP rs) := by
  induction rs using snoc_ind with
  | h0 => exact ⟨rfl, RL.zero hv⟩
  | h1 rs s ih =>
    have hp := play_pre h
    obtain ⟨e, r⟩ := ih (fun r hr => hs r (by simp [hr])) hp
    have s1 : s = 0 ∨ s = 1 := hs s (by simp)
    rw [playL_snoc, stepL_none hp, e] at h ⊢
    rw [cntP_snoc s1]
    cases hw : lwonP v (plusM (cntP rs) s) s with
    | true => simp [afterL, hw] at h
    | false => exact ⟨by simp [afterL, hw], r.step hv s1 hw⟩
theorem Mt.sides {vs : List Lv} {s : Int} {rs : List Int} (h : Mt vs s rs) (hs : Sides rs) : s = 0 ∨ s = 1 := hs s (by rw [h.split]; simp)
/-- how a round ends -/
theorem Mt.one {v : Lv} {s : Int} {rs : List Int} (hv : v.Ok) (hs : Sides rs) (h : Mt [v] s rs) : RL v (cntP rs.dropLast) ∧ lwonP v (plusM (cntP rs.dropLast) s) s = true ∧ cntP rs = plusM (cntP rs.dropLast) s := by
  have s1 := h.sides hs
  have e := h.split
  have hd : Sides rs.dropLast := fun r hr => hs r ((List.dropLast_sublist rs).subset hr)
  obtain ⟨e1, r⟩ := one_play hv rs.dropLast hd h.b
  refine ⟨r, ?_, by conv => lhs; rw [e]
                    exact cntP_snoc s1⟩
  have hw := h.w
  rw [e, playL_snoc, stepL_none h.b, e1] at hw
  cases hq : lwonP v (plusM (cntP rs.dropLast) s) s with
  | true => rfl
  | false => simp [afterL, hq] at hw
theorem cnt_len {rs : List Int} (hs : Sides rs) : (rs.length : Int) = (cntP rs).1 + (cntP rs).2 := by
  induction rs using snoc_ind with
  | h0 => rfl
  | h1 rs s ih =>
    have i := ih fun r hr => hs r (by simp [hr])
    have s1 : s = 0 ∨ s = 1 := hs s (by simp)
    rw [cntP_snoc s1, List.length_append, Int.natCast_add, i]
    rcases s1 with rfl | rfl <;> simp [plusM] <;> omega
def leastU (v : Lv) : Int := match v.c with
  | none => max v.t v.l
  | some c => min (max v.t v.l) c
def mostU (v : Lv) : Option Int := if v.l = 1 then some (2 * v.t - 1) else match v.c with
  | none => none
  | some c => some (2 * c - 1)
theorem leastU_le {v : Lv} {s : Int} {rs : List Int} (hv : v.Ok) (hs : Sides rs) (h : Mt [v] s rs) : leastU v ≤ rs.length := by
  obtain ⟨r, w, e⟩ := h.one hv hs
  rw [cnt_len hs, e]
  have s1 := h.sides hs
  obtain ⟨h1, h2, h3, h4⟩ := r
  generalize cntP rs.dropLast = p at h1 h2 h3 h4 w
  obtain ⟨a, b⟩ := p
  obtain ⟨t, l, c⟩ := v
  simp only at h1 h2
  cases c with
  | none => rcases s1 with rfl | rfl <;> simp [lwonP, lwon, plusM, ownP] at w <;> simp [leastU, plusM] <;> omega
  | some c => rcases s1 with rfl | rfl <;> simp [lwonP, lwon, plusM, ownP] at w <;> simp [leastU, plusM] <;> omega
theorem le_mostU {v : Lv} {s m : Int} {rs : List Int} (hv : v.Ok) (hs : Sides rs) (h : Mt [v] s rs) (hm : mostU v = some m) : rs.length ≤ m := by
  obtain ⟨r, w, e⟩ := h.one hv hs
  rw [cnt_len hs, e]
  have s1 := h.sides hs
  obtain ⟨h1, h2, h3, h4⟩ := r
  generalize cntP rs.dropLast = p at h1 h2 h3 h4 w
  obtain ⟨a, b⟩ := p
  obtain ⟨t, l, c⟩ := v
  simp only at h1 h2 h4
  unfold mostU at hm
  simp only at hm
  by_cases hl : l = 1
  · rw [if_pos hl] at hm
    have := h4 hl
    cases hm
    rcases s1 with rfl | rfl <;> simp [plusM] <;> omega
  · rw [if_neg hl] at hm
    cases c with
    | none => cases hm
    | some c =>
      cases hm
      have := h3.2.2 c rfl
      simp only at this
      rcases s1 with rfl | rfl <;> simp [plusM] <;> omega
def leastM : List Lv → Int
  | [] => 1
  | v :: vs => leastU v * leastM vs
def mostM : List Lv → Option Int
  | [] => some 1
  | v :: vs => match mostU v, mostM vs with
    | some a, some b => some (a * b)
    | _, _ => none
theorem leastU_pos {v : Lv} (hv : v.Ok) : 1 ≤ leastU v := by
  obtain ⟨t, l, c⟩ := v
  obtain ⟨h1, h2, h3, h4, h5⟩ := hv
  simp only at h1 h2 h3 h4 h5
  cases c with
  | none => simp [leastU]; omega
  | some c => have := h5 c rfl; simp [leastU]; omega
theorem flat_ge {lo : Int} : ∀ {bs : List (List Int × Int)}, (∀ b ∈ bs, lo ≤ b.1.length) → lo * bs.length ≤ ((bs.map (·.1)).flatten.length : Int)
  | [], _ => by simp
  | b :: bs, h => by
    have := flat_ge (lo := lo) (bs := bs) fun b hb => h b (by simp [hb])
    have := h b (by simp)
    simp only [List.map_cons, List.flatten_cons, List.length_append, List.length_cons, Int.natCast_add]
    rw [Int.mul_add]
    simp only [Int.cast_ofNat_Int, Int.mul_one]
    omega
theorem flat_le {hi : Int} : ∀ {bs : List (List Int × Int)}, (∀ b ∈ bs, (b.1.length : Int) ≤ hi) → ((bs.map (·.1)).flatten.length : Int) ≤ hi * bs.length
  | [], _ => by simp
  | b :: bs, h => by
    have := flat_le (hi := hi) (bs := bs) fun b hb => h b (by simp [hb])
    have := h b (by simp)
    simp only [List.map_cons, List.flatten_cons, List.length_append, List.length_cons, Int.natCast_add]
    rw [Int.mul_add]
    simp only [Int.cast_ofNat_Int, Int.mul_one]
    omega
theorem sides_cut {bs : List (List Int × Int)} (hs : Sides (bs.map (·.1)).flatten) : ∀ b ∈ bs, Sides b.1 := fun b hb r hr => hs r (List.mem_flatten.mpr ⟨b.1, List.mem_map.mpr ⟨b, hb, rfl⟩, hr⟩)
theorem sides_snd {F : List Lv} {bs : List (List Int × Int)} (hs : ∀ b ∈ bs, Sides b.1) (hb : ∀ b ∈ bs, Mt F b.2 b.1) : Sides (bs.map (·.2)) := fun r hr => by
  obtain ⟨b, h, rfl⟩ := List.mem_map.mp hr
  exact (hb b h).sides (hs b h)
/-- no match is shorter -/
theorem Mt.ge : ∀ {vs : List Lv} {s : Int} {rs : List Int}, vs ≠ [] → (∀ v ∈ vs, v.Ok) → Sides rs → Mt vs s rs → leastM vs ≤ rs.length
  | [], _, _, h, _, _, _ => absurd rfl h
  | [v], s, rs, _, hv, hs, h => by
    have := leastU_le (hv v (by simp)) hs h
    simpa [leastM] using this
  | v :: v2 :: vs, s, rs, _, hv, hs, h => by
    obtain ⟨bs, rfl, hb, hm⟩ := Mt.cut (F := [v]) (G := v2 :: vs) (by simp) (by simp) h
    have sb := sides_cut hs
    have i := Mt.ge (vs := v2 :: vs) (by simp) (fun v hv' => hv v (by simp at hv' ⊢; exact .inr hv')) (sides_snd sb hb) hm
    have f := flat_ge fun b hb' => leastU_le (hv v (by simp)) (sb b hb') (hb b hb')
    have := leastU_pos (hv v (by simp))
    rw [List.length_map] at i
    have : leastU v * leastM (v2 :: vs) ≤ leastU v * bs.length := Int.mul_le_mul_of_nonneg_left i (by omega)
    show leastU v * leastM (v2 :: vs) ≤ _
    omega
/-- no match is longer -/
theorem Mt.le : ∀ {vs : List Lv} {s m : Int} {rs : List Int}, vs ≠ [] → (∀ v ∈ vs, v.Ok) → Sides rs → Mt vs s rs → mostM vs = some m → rs.length ≤ m
  | [], _, _, _, h, _, _, _, _ => absurd rfl h
  | [v], s, m, rs, _, hv, hs, h, hm => by
    unfold mostM at hm
    cases hq : mostU v with
    | none => rw [hq] at hm; cases hm
    | some a =>
      rw [hq] at hm
      simp [mostM] at hm
      subst hm
      exact le_mostU (hv v (by simp)) hs h hq
  | v :: v2 :: vs, s, m, rs, _, hv, hs, h, hm => by
    obtain ⟨bs, rfl, hb, hmt⟩ := Mt.cut (F := [v]) (G := v2 :: vs) (by simp) (by simp) h
    have sb := sides_cut hs
    rw [mostM] at hm
    cases hq : mostU v with
    | none => rw [hq] at hm; cases hm
    | some a =>
      cases hq2 : mostM (v2 :: vs) with
      | none => rw [hq, hq2] at hm; cases hm
      | some b =>
        rw [hq, hq2] at hm
        cases hm
        have i := Mt.le (vs := v2 :: vs) (by simp) (fun v hv' => hv v (by simp at hv' ⊢; exact .inr hv')) (sides_snd sb hb) hmt hq2
        have f := flat_le fun b hb' => le_mostU (hv v (by simp)) (sb b hb') (hb b hb') hq
        rw [List.length_map] at i
        have : a * bs.length ≤ a * b := Int.mul_le_mul_of_nonneg_left i (by
          unfold mostU at hq
          have := hv v (by simp)
          obtain ⟨h1, h2, h3, h4, h5⟩ := this
          split at hq
          · cases hq; omega
          · cases hc : v.c with
            | none => rw [hc] at hq; cases hq
            | some c => rw [hc] at hq; cases hq; have := h5 c hc; omega)
        omega
/-- a row made of rows, level by level; the last level first -/
def ptsB (r : Lv → Int → List Int) : List Lv → Int → List Int
  | [], s => [s]
  | v :: vs, s => ((r v s).map (ptsB r vs)).flatten
theorem ptsB_sides {r : Lv → Int → List Int} : ∀ {vs : List Lv} {s : Int}, (∀ v ∈ vs, ∀ s, s = 0 ∨ s = 1 → Sides (r v s)) → s = 0 ∨ s = 1 → Sides (ptsB r vs s)
  | [], s, _, hs => fun q hq => by simp [ptsB] at hq; subst hq; exact hs
  | v :: vs, s, h, hs => fun q hq => by
    simp only [ptsB, List.mem_flatten, List.mem_map] at hq
    obtain ⟨l, ⟨u, hu, rfl⟩, hq⟩ := hq
    exact ptsB_sides (fun v hv => h v (by simp [hv])) (h v (by simp) s hs u hu) q hq
theorem ptsB_mt {r : Lv → Int → List Int} : ∀ {vs : List Lv} {s : Int}, vs ≠ [] → (∀ v ∈ vs, ∀ s, s = 0 ∨ s = 1 → Mt [v] s (r v s) ∧ Sides (r v s)) → s = 0 ∨ s = 1 → Mt vs.reverse s (ptsB r vs s)
  | [], _, h, _, _ => absurd rfl h
  | [v], s, _, h, hs => by
    have e : ptsB r [v] s = r v s := by
      simp only [ptsB]
      generalize r v s = l
      induction l with
      | nil => rfl
      | cons a l ih => simpa using ih
    rw [e]
    exact (h v (by simp) s hs).1
  | v :: v2 :: vs, s, _, h, hs => by
    have ih := fun u (hu : u = 0 ∨ u = 1) => ptsB_mt (vs := v2 :: vs) (s := u) (by simp) (fun v hv => h v (by simp at hv ⊢; exact .inr hv)) hu
    obtain ⟨h1, h2⟩ := h v (by simp) s hs
    have j := Mt.join (F := (v2 :: vs).reverse) (G := [v]) (bs := (r v s).map fun u => (ptsB r (v2 :: vs) u, u)) (by simp) (by simp) (fun b hb => by
      obtain ⟨u, hu, rfl⟩ := List.mem_map.mp hb
      exact ih u (h2 u hu)) (by rw [List.map_map]; simpa [Function.comp_def] using h1)
    rw [List.map_map] at j
    rw [List.reverse_cons]
    exact j
theorem ptsB_len {r : Lv → Int → List Int} {n : Lv → Nat} : ∀ {vs : List Lv} {s : Int}, (∀ v ∈ vs, ∀ s, s = 0 ∨ s = 1 → (r v s).length = n v ∧ Sides (r v s)) → s = 0 ∨ s = 1 → (ptsB r vs s).length = (vs.map n).foldr (· * ·) 1
  | [], s, _, _ => rfl
  | v :: vs, s, h, hs => by
    obtain ⟨h1, h2⟩ := h v (by simp) s hs
    have ih := fun u (hu : u = 0 ∨ u = 1) => ptsB_len (vs := vs) (s := u) (n := n) (fun v hv => h v (by simp [hv])) hu
    simp only [ptsB, List.map_cons, List.foldr_cons]
    rw [← h1]
    generalize r v s = l at h2
    clear h1
    induction l with
    | nil => simp
    | cons a l ih2 =>
      rw [List.map_cons, List.flatten_cons, List.length_append, ih2 fun r hr => h2 r (by simp [hr]), ih a (h2 a (by simp)), List.length_cons, Nat.add_mul, Nat.one_mul, Nat.add_comm]

end Sf
end

section
set_option Elab.async false
set_option maxRecDepth 100000
set_option linter.all false
set_option maxHeartbeats 4000000
namespace Sf
open PySem L2
def Lv.okB (v : Lv) : Bool := decide (1 ≤ v.t) && decide (v.t ≤ 5) && decide (1 ≤ v.l) && decide (v.l ≤ 3) && (match v.c with
  | none => true
  | some c => decide (v.t ≤ c) && decide (c ≤ 9))
theorem Lv.ok_of {v : Lv} (h : v.okB = true) : v.Ok := by
  obtain ⟨t, l, c⟩ := v
  unfold Lv.okB at h
  simp only [Bool.and_eq_true, decide_eq_true_eq] at h
  obtain ⟨⟨⟨⟨h1, h2⟩, h3⟩, h4⟩, h5⟩ := h
  refine ⟨h1, h2, h3, h4, fun k hk => ?_⟩
  simp only at hk
  subst hk
  simpa using h5
def formB (vs : List Lv) : Bool := Nat.ble 1 vs.length && Nat.ble vs.length 3 && vs.all Lv.okB
theorem form_of {vs : List Lv} (h : formB vs = true) : Form vs := by
  unfold formB at h
  rw [Bool.and_eq_true, Bool.and_eq_true] at h
  exact ⟨Nat.le_of_ble_eq_true h.1.1, Nat.le_of_ble_eq_true h.1.2, fun v hv => Lv.ok_of (List.all_eq_true.mp h.2 v hv)⟩

end Sf
end

section
set_option Elab.async false
set_option maxRecDepth 100000
set_option linter.all false
set_option maxHeartbeats 4000000
namespace Sf
open PySem L2
/-! rows as lists: times, sum, count, cuts -/
@[simp] theorem x_meth {g : OpM} {fo : FE} {fs : FA} {env : En} {S : Sto} : fMethL g fo fs env S = (fo env S).bind fun o S1 => bif isLs o S1 then (fs env S1).bind fun xs S2 => outO (g o xs S2) else .bad := rfl
@[simp] theorem x_op1r {o : Op1} {a : FE} {env : En} {S : Sto} : fOp1 o a env S = (a env S).bind fun x S1 => outO (o x S1) := rfl
@[simp] theorem x_isLs {l : List D} {S : Sto} : isLs (.lst l) S = true := rfl
theorem mul_s {m : Bool} {i j : Int} {S : Sto} (h : mulOk i j = true) : oMul m (.int i) (.int j) S = some (.int (i * j), S) := by rw [x_mul, h]; rfl
theorem mul_small {i j : Int} {S : Sto} (h : -1000 ≤ i) (h' : i ≤ 1000) : oMul false (.int i) (.int j) S = some (.int (i * j), S) := mul_l (nat_blt (by omega))
theorem flat_map {l : List Int} : ∀ n : Nat, (List.replicate n (l.map D.int)).flatten = ((List.replicate n l).flatten).map D.int
  | 0 => rfl
  | n + 1 => by rw [List.replicate_succ, List.flatten_cons, flat_map n, List.replicate_succ, List.flatten_cons, List.map_append]
theorem mul_row {l : List Int} {k : Int} {S : Sto} (h0 : 0 ≤ k) (h1 : k ≤ 1000) (h2 : l.length ≤ 1000) : oMul false (rowD l) (.int k) S = some (rowD (List.replicate k.toNat l).flatten, S) := by
  have hz : (l.map D.int).length * k.toNat ≤ 16777216 := by
    rw [List.length_map]
    have : l.length * k.toNat ≤ 1000 * 1000 := Nat.mul_le_mul h2 (by omega)
    omega
  show (match lsW (rowD l) S with
    | some l => bif decide (-1000000 ≤ k) && decide (k ≤ 1000000) && fit (l.length * k.toNat) then mkL false (List.replicate k.toNat l).flatten S else none
    | none => none) = _
  simp only [lsW]
  rw [decide_eq_true (by omega), decide_eq_true (by omega), fit_of hz, flat_map, x_mkF, fit_of (by rw [List.length_map, PyProof.Rows.lm_len_rep_flat, Nat.mul_comm]; rw [List.length_map] at hz; exact hz)]; rfl
theorem add_row {l m : List Int} {S : Sto} (h : l.length + m.length ≤ 1000000) : oAdd false (rowD l) (rowD m) S = some (rowD (l ++ m), S) := by
  show mkL false (l.map D.int ++ m.map D.int) S = _
  rw [x_mkF, fit_of (by simp; omega), ← List.map_append]; rfl
theorem count_row {l : List Int} {k : Int} {S : Sto} : mCount (rowD l) [.int k] S = some (.int ((l.count k : Nat) : Int), S) := by
  show (match intsD (l.map D.int) with
    | some ns => some (D.int ((ns.count k : Nat) : Int), S)
    | none => none) = _
  rw [intsD_ints]
theorem cut_last {l : List D} : cutD l none (some (-1)) = l.dropLast := by
  unfold cutD
  rw [HT.sIx_none, List.drop_zero, Nat.sub_zero, List.dropLast_eq_take]
  congr 1
  show (if (-1 : Int) < 0 then ((-1 : Int) + (l.length : Int)).toNat else min (-1 : Int).toNat l.length) = _
  rw [if_pos (by decide)]; omega
theorem cutT_last {l : List D} {m : Bool} {S : Sto} : oCut m (.tup l) none (some (-1)) S = some (.tup l.dropLast, S) := by
  show some (D.tup (cutD l none (some (-1))), S) = _
  rw [cut_last]
theorem cutL_last {l : List D} {S : Sto} (h : fit l.dropLast.length = true) : oCut false (.lst l) none (some (-1)) S = some (.lst l.dropLast, S) := by
  show mkL false (cutD l none (some (-1))) S = _
  rw [cut_last, x_mkF, h]; rfl
theorem ix_last {l : List D} {d : D} : ixD (l ++ [d]) (-1) = some d := by
  unfold ixD
  rw [decide_eq_false (by decide), decide_eq_true (by simp; omega)]
  simp only [cond_false, cond_true, List.length_append, List.length_cons, List.length_nil]
  rw [show (-1 + ((l.length + 1 : Nat) : Int)).toNat = l.length by omega]
  simp
theorem eqTup0 {l : List D} {S : Sto} {n : Nat} (h : plL n l = true) (hn : n < 60) : oEq (.tup l) (.tup []) S = some (.bl l.isEmpty, S) := by
  obtain ⟨p, q, h1, h2, h3, h4, e⟩ := eqB_pl (S := S) (n := n + 1) (d := .tup l) (e := .tup []) h (by simp [pl, plL_nil]) (by omega)
  unfold oEq
  rw [e]
  obtain ⟨ps, k1, k2, k3⟩ := plL_ok n l h
  unfold D.py at h1 h2
  rw [k1] at h1; cases h1
  rw [show D.pys [] = some [] from by simp [D.pys]] at h2
  cases h2
  cases l with
  | nil => rw [show D.pys [] = some [] from by simp [D.pys]] at k1; cases k1; simp [PyData.eqv, PyData.eqvAll]
  | cons d l =>
    unfold D.pys at k1
    cases hd : D.py d with
    | none => rw [hd] at k1; cases k1
    | some pd =>
      cases hl : D.pys l with
      | none => rw [hd, hl] at k1; cases k1
      | some pl' => rw [hd, hl] at k1; cases k1; simp [PyData.eqv, PyData.eqvAll]
theorem pl_Lv {n : Nat} {v : Lv} : pl (n + 1) v.D = true := by
  obtain ⟨t, l, c⟩ := v
  cases c <;> simp [Lv.D, pl, plL_cons, plL_nil, pl_int, pl_non]
theorem plL_form {n : Nat} (vs : List Lv) : plL (n + 1) (vs.map Lv.D) = true := plL_map Lv.D (fun _ => pl_Lv) vs

end Sf
end

section
set_option Elab.async false
set_option maxRecDepth 100000
set_option linter.all false
set_option maxHeartbeats 4000000
namespace Sf
open PySem L2
/-! l == [] -/
theorem eqNil {l : List Int} {S : Sto} : oEq (rowD l) (.lst []) S = some (.bl l.isEmpty, S) ∧ oNe (rowD l) (.lst []) S = some (.bl (!l.isEmpty), S) := by
  obtain ⟨p, q, h1, h2, h3, h4, e⟩ := eqB_pl (S := S) (n := 1) (d := rowD l) (e := .lst []) (plL_ints l) rfl (by omega)
  unfold D.py at h1 h2
  rw [pys_ints] at h1
  cases h1
  rw [show D.pys [] = some [] from by simp [D.pys]] at h2
  cases h2
  unfold oEq oNe
  rw [e]
  cases l <;> simp [PyData.eqv, PyData.eqvAll]
theorem dropLast_map_snoc {vs : List Lv} {v : Lv} : ((vs ++ [v]).map Lv.D).dropLast = vs.map Lv.D := by simp

end Sf
end

section
set_option Elab.async false
set_option maxRecDepth 100000
set_option linter.all false
set_option maxHeartbeats 4000000
namespace Sf
open PySem L2
/-! the levels of drawn forms, all of them -/
def lvOld : List Lv := [1, 2, 3, 4].flatMap fun t => [1, 2, 3].flatMap fun l => [none, some t, some (t + 1), some (t + 3)].map fun c => ⟨t, l, c⟩
/-- and those of written forms -/
def lvAll : List Lv := lvOld ++ [⟨1, 1, some 3⟩, ⟨2, 1, some 4⟩, ⟨3, 1, some 5⟩, ⟨4, 1, some 6⟩, ⟨1, 1, some 9⟩, ⟨2, 1, some 9⟩, ⟨3, 1, some 9⟩, ⟨4, 1, some 9⟩, ⟨2, 2, some 4⟩, ⟨3, 3, some 5⟩]
theorem mem_lvOld {m : Int} {v : Lv} (h : v.In m) (hm : m ≤ 4) : v ∈ lvOld := by
  obtain ⟨t, l, c⟩ := v
  obtain ⟨h1, h2, h3, h4, h5⟩ := h
  simp only at h1 h2 h3 h4 h5
  unfold lvOld
  simp only [List.mem_flatMap, List.mem_map]
  refine ⟨t, by simp; omega, l, by simp; omega, c, ?_, rfl⟩
  simpa using h5
theorem mem_lvAll {m : Int} {v : Lv} (h : v.In m) (hm : m ≤ 4) : v ∈ lvAll := List.mem_append_left _ (mem_lvOld h hm)
theorem Drawn.old {vs : List Lv} (h : Drawn vs) : ∀ v ∈ vs, v ∈ lvOld := fun v hv => mem_lvOld (h.2.2 v hv) (by have := h.1; unfold mostT; split <;> omega)
theorem Drawn.all {vs : List Lv} (h : Drawn vs) : ∀ v ∈ vs, v ∈ lvAll := fun v hv => mem_lvAll (h.2.2 v hv) (by have := h.1; unfold mostT; split <;> omega)
theorem all_ok {p : Lv → Bool} (h : lvAll.all p = true) {v : Lv} (hv : v ∈ lvAll) : p v = true := List.all_eq_true.mp h v hv
theorem lvAll_ok {v : Lv} (hv : v ∈ lvAll) : v.Ok := Lv.ok_of (all_ok (p := Lv.okB) (by decide +kernel) hv)
def mtB (vs : List Lv) (s : Int) (rs : List Int) : Bool := (match (playL vs rs).w with
  | some k => decide (k = s)
  | none => false) && (playL vs rs.dropLast).w.isNone && rs.all fun r => decide (r = 0) || decide (r = 1)
theorem mt_of {vs : List Lv} {s : Int} {rs : List Int} (h : mtB vs s rs = true) : Mt vs s rs ∧ Sides rs := by
  unfold mtB at h
  rw [Bool.and_eq_true, Bool.and_eq_true] at h
  obtain ⟨⟨h1, h2⟩, h3⟩ := h
  refine ⟨⟨?_, by simpa using h2⟩, fun r hr => by have := List.all_eq_true.mp h3 r hr; simpa using this⟩
  cases hw : (playL vs rs).w with
  | none => rw [hw] at h1; cases h1
  | some k => rw [hw] at h1; rw [of_decide_eq_true h1]
def alt (n : Int) : List Int := (List.replicate n.toNat [0, 1]).flatten
def rndL (v : Lv) (more : Int) : List Int := if v.l = 1 ∨ v.c = some v.t then alt (v.t - 1) ++ [0] else match v.c with
  | some c => alt (c - 1) ++ [0]
  | none => alt (v.t + more) ++ (List.replicate v.l.toNat [0]).flatten
def turnI (s x : Int) : Int := if s = 0 then x else 1 - x
def rndS (more : Int) (v : Lv) (s : Int) : List Int := (rndL v more).map (turnI s)
theorem rnd_mt {more s : Int} {v : Lv} (hv : v ∈ lvAll) (hm : 0 ≤ more ∧ more ≤ 10) (hs : s = 0 ∨ s = 1) : Mt [v] s (rndS more v s) ∧ Sides (rndS more v s) := by
  have h : (lvAll.all fun v => [0, 1, 2, 3, 4, 5, 6, 7, 8, 9, 10].all fun m => [0, 1].all fun s => mtB [v] s (rndS m v s)) = true := by decide +kernel
  have h := List.all_eq_true.mp (List.all_eq_true.mp (all_ok h hv) more (by simp; omega)) s (by simp; omega)
  exact mt_of h
theorem rnd_len {more : Int} {v : Lv} {m : Int} (hv : v ∈ lvAll) (hm : mostU v = some m) (s : Int) : ((rndS more v s).length : Int) = m := by
  have hv := lvAll_ok hv
  obtain ⟨t, l, c⟩ := v
  obtain ⟨h1, h2, h3, h4, h5⟩ := hv
  simp only at h1 h2 h3 h4 h5
  unfold rndS rndL alt
  unfold mostU at hm
  simp only at hm ⊢
  by_cases hl : l = 1
  · rw [if_pos hl] at hm
    cases hm
    rw [if_pos (.inl hl), List.length_map, List.length_append, PyProof.Rows.lm_len_rep_flat]
    simp; omega
  · rw [if_neg hl] at hm
    cases c with
    | none => cases hm
    | some c =>
      cases hm
      have := h5 c rfl
      by_cases hc : c = t
      · subst hc
        rw [if_pos (.inr rfl), List.length_map, List.length_append, PyProof.Rows.lm_len_rep_flat]
        simp; omega
      · rw [if_neg (by simp [hl, hc]), List.length_map, List.length_append, PyProof.Rows.lm_len_rep_flat]
        simp; omega
theorem mostU_none {v : Lv} : mostU v = none ↔ v.l ≠ 1 ∧ v.c = none := by
  obtain ⟨t, l, c⟩ := v
  unfold mostU
  by_cases hl : l = 1 <;> cases c <;> simp [hl]
theorem mostM_none : ∀ {vs : List Lv}, mostM vs = none ↔ ∃ v ∈ vs, mostU v = none
  | [] => by simp [mostM]
  | v :: vs => by
    have ih := mostM_none (vs := vs)
    unfold mostM
    cases h1 : mostU v with
    | none => simp [h1]
    | some a =>
      cases h2 : mostM vs with
      | none => simp [h1, ih.mp h2]
      | some b =>
        have : ¬ ∃ v ∈ vs, mostU v = none := fun h => by have := ih.mpr h; rw [h2] at this; cases this
        simp [h1]
        simpa using this
/-- the balanced row -/
abbrev balR (vs : List Lv) (more s : Int) : List Int := ptsB (rndS more) vs.reverse s
theorem bal_mt {vs : List Lv} {more s : Int} (h0 : vs ≠ []) (hv : ∀ v ∈ vs, v ∈ lvAll) (hm : 0 ≤ more ∧ more ≤ 10) (hs : s = 0 ∨ s = 1) : Mt vs s (balR vs more s) ∧ Sides (balR vs more s) := by
  have h := ptsB_mt (r := rndS more) (vs := vs.reverse) (s := s) (by simpa using h0) (fun v hv' s hs => rnd_mt (hv v (by simpa using hv')) hm hs) hs
  rw [List.reverse_reverse] at h
  exact ⟨h, ptsB_sides (fun v hv' s hs => (rnd_mt (hv v (by simpa using hv')) hm hs).2) hs⟩
def nU (more : Int) (v : Lv) : Nat := (rndS more v 0).length
theorem rndS_len {more s : Int} {v : Lv} : (rndS more v s).length = nU more v := by unfold nU rndS; simp
theorem bal_len {vs : List Lv} {more s : Int} (hv : ∀ v ∈ vs, v ∈ lvAll) (hm : 0 ≤ more ∧ more ≤ 10) (hs : s = 0 ∨ s = 1) : (balR vs more s).length = (vs.map (nU more)).foldr (· * ·) 1 := by
  have h := ptsB_len (r := rndS more) (n := nU more) (vs := vs.reverse) (s := s) (fun v hv' s hs => ⟨rndS_len, (rnd_mt (hv v (by simpa using hv')) hm hs).2⟩) hs
  rw [h]
  clear h
  have key : ∀ (l : List Nat) (a : Nat), l.foldr (· * ·) a = l.foldr (· * ·) 1 * a := by
    intro l
    induction l with
    | nil => intro a; simp
    | cons x l ih => intro a; simp only [List.foldr_cons]; rw [ih a, Nat.mul_assoc]
  rw [List.map_reverse]
  generalize vs.map (nU more) = l
  induction l with
  | nil => rfl
  | cons x l ih => rw [List.reverse_cons, List.foldr_append, key, ih]; simp [Nat.mul_comm]
theorem bal_most {vs : List Lv} {more s m : Int} (hv : ∀ v ∈ vs, v ∈ lvAll) (hm : 0 ≤ more ∧ more ≤ 10) (hs : s = 0 ∨ s = 1) (h : mostM vs = some m) : ((balR vs more s).length : Int) = m := by
  rw [bal_len hv hm hs]
  clear hs
  induction vs generalizing m with
  | nil => cases h; rfl
  | cons v vs ih =>
    unfold mostM at h
    cases h1 : mostU v with
    | none => rw [h1] at h; cases h
    | some a =>
      cases h2 : mostM vs with
      | none => rw [h1, h2] at h; cases h
      | some b =>
        rw [h1, h2] at h; cases h
        have := rnd_len (more := more) (hv v (by simp)) h1 0
        rw [List.map_cons, List.foldr_cons, Int.natCast_mul, ih (fun v hv' => hv v (by simp [hv'])) h2]
        rw [show ((nU more v : Nat) : Int) = a from this]
theorem nU_pos {more : Int} {v : Lv} (hv : v ∈ lvAll) (hm : 0 ≤ more ∧ more ≤ 10) : 1 ≤ nU more v := by
  have := (rnd_mt hv hm (.inl rfl)).1.ne
  exact List.length_pos_iff.mpr this
theorem nU_mono {more : Int} {v : Lv} (hv : v ∈ lvAll) (hm : 0 ≤ more) : nU more v ≤ nU (more + 1) v ∧ (mostU v = none → nU more v < nU (more + 1) v) := by
  have hv := lvAll_ok hv
  obtain ⟨t, l, c⟩ := v
  obtain ⟨h1, h2, h3, h4, h5⟩ := hv
  simp only at h1 h2 h3 h4 h5
  rw [mostU_none]
  unfold nU rndS rndL alt
  simp only
  by_cases hl : l = 1
  · simp [hl]
  · cases c with
    | some c => by_cases hc : c = t <;> simp [hl, hc]
    | none =>
      simp only [hl, false_or, reduceCtorEq, if_false]
      simp only [List.length_map, List.length_append, PyProof.Rows.lm_len_rep_flat, List.length_cons, List.length_nil]
      constructor
      · omega
      · intro _; omega
theorem bal_more {vs : List Lv} {more s : Int} (hv : ∀ v ∈ vs, v ∈ lvAll) (hm : 0 ≤ more ∧ more ≤ 9) (hs : s = 0 ∨ s = 1) (h : mostM vs = none) : (balR vs more s).length < (balR vs (more + 1) s).length := by
  rw [bal_len hv (by omega) hs, bal_len hv (by omega) hs]
  rw [mostM_none] at h
  have pos : ∀ (vs : List Lv), (∀ v ∈ vs, v ∈ lvAll) → 0 < (vs.map (nU more)).foldr (· * ·) 1 ∧ (vs.map (nU more)).foldr (· * ·) 1 ≤ (vs.map (nU (more + 1))).foldr (· * ·) 1 := by
    intro vs hv
    induction vs with
    | nil => simp
    | cons v vs ih =>
      obtain ⟨i1, i2⟩ := ih fun v hv' => hv v (by simp [hv'])
      have := nU_pos (more := more) (hv v (by simp)) (by omega)
      simp only [List.map_cons, List.foldr_cons]
      exact ⟨Nat.mul_pos this i1, Nat.mul_le_mul (nU_mono (hv v (by simp)) hm.1).1 i2⟩
  obtain ⟨w, hw, hn⟩ := h
  induction vs with
  | nil => simp at hw
  | cons v vs ih =>
    have hv' : ∀ v ∈ vs, v ∈ lvAll := fun v h => hv v (by simp [h])
    obtain ⟨p1, p2⟩ := pos vs hv'
    have m := nU_mono (hv v (by simp)) hm.1
    have q := nU_pos (more := more) (hv v (by simp)) (by omega)
    simp only [List.map_cons, List.foldr_cons]
    rcases List.mem_cons.mp hw with rfl | hw
    · calc _ < nU (more + 1) w * (vs.map (nU more)).foldr (· * ·) 1 := Nat.mul_lt_mul_of_pos_right (m.2 hn) p1
        _ ≤ _ := Nat.mul_le_mul_left _ p2
    · calc _ < nU more v * (vs.map (nU (more + 1))).foldr (· * ·) 1 := Nat.mul_lt_mul_of_pos_left (ih hv' hw) q
        _ ≤ _ := Nat.mul_le_mul_right _ m.1

end Sf
end

section
set_option Elab.async false
set_option maxRecDepth 100000
set_option linter.all false
set_option maxHeartbeats 4000000
namespace Sf
open PySem L2
/-! plain: the lengths of matches, and what the search finds -/
def strL (v : Lv) (s : Int) : List Int := List.replicate (leastU v).toNat s
theorem str_mt {s : Int} {v : Lv} (hv : v ∈ lvAll) (hs : s = 0 ∨ s = 1) : Mt [v] s (strL v s) ∧ Sides (strL v s) := by
  have h : (lvAll.all fun v => [0, 1].all fun s => mtB [v] s (strL v s)) = true := by decide +kernel
  exact mt_of (List.all_eq_true.mp (all_ok h hv) s (by simp; omega))
theorem leastM_app : ∀ (a b : List Lv), leastM (a ++ b) = leastM a * leastM b
  | [], b => by simp [leastM]
  | v :: a, b => by simp only [List.cons_append, leastM]; rw [leastM_app a b, Int.mul_assoc]
theorem leastM_rev : ∀ (a : List Lv), leastM a.reverse = leastM a
  | [] => rfl
  | v :: a => by rw [List.reverse_cons, leastM_app, leastM_rev a]; simp [leastM, Int.mul_comm]
theorem short_ex {vs : List Lv} {s : Int} (h0 : vs ≠ []) (hv : ∀ v ∈ vs, v ∈ lvAll) (hs : s = 0 ∨ s = 1) : ∃ R, Mt vs s R ∧ Sides R ∧ (R.length : Int) = leastM vs := by
  have hv' : ∀ v ∈ vs.reverse, v ∈ lvAll := fun v h => hv v (by simpa using h)
  have h := ptsB_mt (r := strL) (vs := vs.reverse) (s := s) (by simpa using h0) (fun v hv s hs => str_mt (hv' v hv) hs) hs
  rw [List.reverse_reverse] at h
  refine ⟨_, h, ptsB_sides (fun v hv s hs => (str_mt (hv' v hv) hs).2) hs, ?_⟩
  rw [ptsB_len (n := fun v => (leastU v).toNat) (fun v hv s hs => ⟨by simp [strL], (str_mt (hv' v hv) hs).2⟩) hs, ← leastM_rev]
  generalize vs.reverse = us at hv'
  induction us with
  | nil => rfl
  | cons v us ih =>
    have := leastU_pos (lvAll_ok (hv' v (by simp)))
    rw [List.map_cons, List.foldr_cons, Int.natCast_mul, ih fun v h => hv' v (by simp [h]), leastM, Int.toNat_of_nonneg (by omega)]
theorem long_ex {vs : List Lv} {s : Int} (h0 : vs ≠ []) (hv : ∀ v ∈ vs, v ∈ lvAll) (hs : s = 0 ∨ s = 1) (h : mostM vs = none) : ∃ R, Mt vs s R ∧ Sides R ∧ 20 < R.length := by
  obtain ⟨h1, h2⟩ := bal_mt (more := 10) h0 hv (by omega) hs
  refine ⟨_, h1, h2, ?_⟩
  rw [bal_len hv (by omega) hs]
  rw [mostM_none] at h
  obtain ⟨w, hw, hn⟩ := h
  clear h1 h2 h0
  have pos : ∀ (vs : List Lv), (∀ v ∈ vs, v ∈ lvAll) → 0 < (vs.map (nU 10)).foldr (· * ·) 1 := by
    intro vs hv
    induction vs with
    | nil => simp
    | cons v vs ih => exact Nat.mul_pos (nU_pos (hv v (by simp)) (by omega)) (ih fun v h => hv v (by simp [h]))
  induction vs with
  | nil => simp at hw
  | cons v vs ih =>
    have hv' : ∀ v ∈ vs, v ∈ lvAll := fun v h => hv v (by simp [h])
    have p := pos vs hv'
    have q := nU_pos (more := 10) (hv v (by simp)) (by omega)
    simp only [List.map_cons, List.foldr_cons]
    rcases List.mem_cons.mp hw with rfl | hw
    · have h : (lvAll.all fun v => (mostU v).isSome || Nat.blt 20 (nU 10 v)) = true := by decide +kernel
      have h := all_ok h (hv w (by simp))
      rw [hn] at h
      have h : 20 < nU 10 w := by simpa using h
      calc 20 < nU 10 w * 1 := by omega
        _ ≤ _ := Nat.mul_le_mul_left _ p
    · have := ih hv' hw
      calc 20 < 1 * (vs.map (nU 10)).foldr (· * ·) 1 := by omega
        _ ≤ _ := Nat.mul_le_mul_right _ q
theorem most_ex {vs : List Lv} {s m : Int} (h0 : vs ≠ []) (hv : ∀ v ∈ vs, v ∈ lvAll) (hs : s = 0 ∨ s = 1) (h : mostM vs = some m) : ∃ R, Mt vs s R ∧ Sides R ∧ (R.length : Int) = m := by
  obtain ⟨h1, h2⟩ := bal_mt (more := 0) h0 hv (by omega) hs
  exact ⟨_, h1, h2, bal_most hv (by omega) hs h⟩
theorem live_of {vs : List Lv} {rs : List Int} (hv : ∀ v ∈ vs, v.Ok) (hr : Sides rs) (h : (playL vs rs).w = none) : live vs (playL vs rs).st := by
  obtain ⟨e, I⟩ := sofar hv _ rs rfl hr
  rw [← e] at h ⊢
  exact (I.no h).2
theorem st_len {vs : List Lv} {rs : List Int} : (playL vs rs).st.length = vs.length := by unfold playL; rw [foldL_len]; simp [start]
/-- a play that goes on can be ended -/
theorem finish {vs : List Lv} {s : Int} (h0 : vs ≠ []) (hv : ∀ v ∈ vs, v.Ok) (hs : s = 0 ∨ s = 1) : ∀ (n : Nat) (rs : List Int), Sides rs → (playL vs rs).w = none → (NN vs (playL vs rs).st s).toNat = n → ∃ qs, Mt vs s (rs ++ qs) ∧ Sides (rs ++ qs) ∧ rs.length < (rs ++ qs).length
  | 0, rs, hr, hw, hn => by
    have := NN_pos (live_of hv hr hw) hv hs
    omega
  | n + 1, rs, hr, hw, hn => by
    have lv := live_of hv hr hw
    have hl : 1 ≤ vs.length := List.length_pos_iff.mpr h0
    obtain ⟨n1, n2⟩ := NN_step lv hv hs hl st_len
    have hr' : Sides (rs ++ [s]) := fun r h => by
      rcases List.mem_append.mp h with h | h
      · exact hr r h
      · simp at h; subst h; exact hs
    have e := playL_snoc (vs := vs) (rs := rs) (s := s)
    rw [stepL_none hw] at e
    cases ha : (afterL vs (playL vs rs).st s).2 with
    | none =>
      have hw' : (playL vs (rs ++ [s])).w = none := by rw [e]; exact ha
      have hn' : (NN vs (playL vs (rs ++ [s])).st s).toNat = n := by rw [e]; simp only; rw [n1 ha]; omega
      obtain ⟨qs, h1, h2, h3⟩ := finish h0 hv hs n (rs ++ [s]) hr' hw' hn'
      refine ⟨s :: qs, by simpa using h1, by simpa using h2, ?_⟩
      simp
    | some w =>
      have := afterL_w ha
      subst this
      refine ⟨[w], ⟨by rw [e]; exact ha, by simpa using hw⟩, hr', by simp⟩
theorem pre_none {vs : List Lv} {s : Int} {R : List Int} {k : Nat} (h : Mt vs s R) (hk : k < R.length) : (playL vs (R.take k)).w = none := by
  have e : R.dropLast = R.take k ++ R.dropLast.drop k := by
    rw [List.dropLast_eq_take]
    conv => lhs; rw [← List.take_append_drop k (R.take (R.length - 1))]
    rw [List.take_take, Nat.min_eq_left (by omega)]
  have := h.b
  rw [e] at this
  exact play_pre this

end Sf
end

section
set_option Elab.async false
set_option maxRecDepth 100000
set_option linter.all false
set_option maxHeartbeats 4000000
namespace Sf
open PySem L2
/-! settled scores -/
def spare (v : Lv) (p : Pr) : Int := match v.c with
  | none => min p.1 p.2 - v.t + 1
  | some _ => 0
def setlP (v : Lv) (p : Pr) : Pr := if 0 < spare v p then (p.1 - spare v p, p.2 - spare v p) else p
def setlM : List Lv → List Pr → List Pr
  | v :: vs, p :: ps => setlP v p :: setlM vs ps
  | _, _ => []
theorem setlM_len : ∀ {vs : List Lv} {ps : List Pr}, ps.length = vs.length → (setlM vs ps).length = vs.length
  | [], [], _ => rfl
  | [], p :: ps, h => by simp at h
  | v :: vs, [], h => by simp at h
  | v :: vs, p :: ps, h => by simp [setlM, setlM_len (vs := vs) (ps := ps) (by simpa using h)]
def setlB : FS := (sSeq (sAsg 5 (fIf (tVal (fOp2 oIs (fOp2 oIx (fVar 3) (fCon (.int 2))) (fCon .non))) (fOp2 (oAdd false) (fOp2 (oSub) (fOpN oMin (fCons (fVar 4) (fNil))) (fOp2 oIx (fVar 3) (fCon (.int 0)))) (fCon (.int 1))) (fCon (.int 0))))
    (sExpr (fMethL mAppend (fVar 2) (fCons (fIf (tVal (fOp2 oGt (fVar 5) (fCon (.int 0)))) (fTup (fCons (fOp2 (oSub) (fOp2 oIx (fVar 4) (fCon (.int 0))) (fVar 5)) (fCons (fOp2 (oSub) (fOp2 oIx (fVar 4) (fCon (.int 1))) (fVar 5)) (fNil)))) (fVar 4)) (fNil)))))
theorem minPr {p : Pr} {S : Sto} : oMin [.tup [.int p.1, .int p.2]] S = some (.int (min p.1 p.2), S) := rfl
@[simp] theorem x_append {n : Nat} {d : D} {S : Sto} : mAppend (.loc n) [d] S = match S[n]? with
    | some (.lst l) => bif fitS l.length then some (.non, S.set n (.lst (l ++ [d]))) else none
    | _ => none := rfl
theorem isLs_of {n : Nat} {S : Sto} {l : List D} (h : S[n]? = some (.lst l)) : isLs (.loc n) S = true := by unfold isLs lsR lsW; simp [h]
theorem fitS_of {n : Nat} (h : n < 16777216) : fitS n = true := nat_blt h
theorem t_setlB {x0 x1 : D} : ∀ (vs : List Lv) (ps : List Pr) (acc : List Pr) (a b c : D), ps.length = vs.length → acc.length + vs.length ≤ 1000 →
    ∃ a' b' c', forL (unTup [3, 4]) setlB (zipL (vs.map Lv.D) (ps.map prD)) [x0, x1, .loc 0, a, b, c] [.lst (acc.map prD)] = .nx [x0, x1, .loc 0, a', b', c'] [.lst ((acc ++ setlM vs ps).map prD)]
  | [], [], acc, a, b, c, _, _ => ⟨a, b, c, by simp [zipL, forL, setlM]⟩
  | [], p :: ps, acc, a, b, c, h, _ => by simp at h
  | v :: vs, [], acc, a, b, c, h, _ => by simp at h
  | v :: vs, p :: ps, acc, a, b, c, h, hl => by
    simp only [List.length_cons] at h hl
    have hf : fitS acc.length = true := fitS_of (by omega)
    have e : setlB [x0, x1, .loc 0, v.D, prD p, c] [.lst (acc.map prD)] = .nx [x0, x1, .loc 0, v.D, prD p, .int (spare v p)] [.lst ((acc ++ [setlP v p]).map prD)] := by
      have il : isLs (.loc 0) [.lst (acc.map prD)] = true := isLs_of rfl
      have mn := fun S => minPr (p := p) (S := S)
      obtain ⟨t, l, cp⟩ := v
      unfold setlB setlP Lv.D prD at *
      cases cp with
      | none =>
        by_cases hs : 0 < spare ⟨t, l, none⟩ p
        · simp only [spare] at hs
          simp [spare, hs, mn, il, hf]
        · simp only [spare] at hs
          simp [spare, hs, mn, il, hf]
      | some cp => simp [spare, il, hf]
    obtain ⟨a', b', c', ih⟩ := t_setlB (x0 := x0) (x1 := x1) vs ps (acc ++ [setlP v p]) v.D (prD p) (.int (spare v p)) (by omega) (by rw [List.length_append, List.length_singleton]; omega)
    refine ⟨a', b', c', ?_⟩
    have hz : zipL ((v :: vs).map Lv.D) ((p :: ps).map prD) = .tup [v.D, prD p] :: zipL (vs.map Lv.D) (ps.map prD) := rfl
    rw [hz, forL_cons (env1 := [x0, x1, .loc 0, v.D, prD p, c]) rfl, e]
    show forL _ _ _ _ _ = _
    rw [ih]
    simp [setlM]
theorem t_settled {vs : List Lv} {ps : List Pr} {S : Sto} (hv : vs.length ≤ 500) (h : ps.length = vs.length) : pureF f_settled [formD vs, stD ps] S = .ok (stD (setlM vs ps)) S := by
  refine pure_eq (by simp [lowL, lowD, low_prs]; exact lowL_map Lv.D (fun _ => low_Lv) vs) ?_
  obtain ⟨a', b', c', key⟩ := t_setlB (x0 := formD vs) (x1 := stD ps) vs ps [] .und .und .und h (by simp; omega)
  unfold f_settled fn b_settled
  change fnEnd false 0 (sSeq _ (sSeq (sFor _ _ setlB) _) _ _) = _
  have key : forL (unTup [3, 4]) setlB (zipL (vs.map Lv.D) (ps.map prD)) [formD vs, stD ps, .loc 0, .und, .und, .und] [.lst []] = _ := key
  have kz : kZip [formD vs, stD ps] = some (zipL (vs.map Lv.D) (ps.map prD)) := rfl
  have fin := end_pl (n := 2) (d := stD (setlM vs ps)) (S := [.lst ((([] : List Pr) ++ setlM vs ps).map prD)]) (by show plL 1 _ = true; exact pl_st _) (by omega)
  simp only [List.nil_append] at fin key
  simp [kz, key, fin]
/-- the same but for units that both sides have too many of -/
def Eqp (v : Lv) (p q : Pr) : Prop := p = q ∨ (v.c = none ∧ p.1 - p.2 = q.1 - q.2 ∧ v.t - 1 ≤ min p.1 p.2 ∧ v.t - 1 ≤ min q.1 q.2)
def Eqs : List Lv → List Pr → List Pr → Prop
  | v :: vs, p :: ps, q :: qs => Eqp v p q ∧ Eqs vs ps qs
  | [], ps, qs => ps = qs
  | _, [], qs => qs = []
  | _, _, [] => False
theorem Eqp.refl {v : Lv} {p : Pr} : Eqp v p p := .inl rfl
theorem Eqp.symm {v : Lv} {p q : Pr} (h : Eqp v p q) : Eqp v q p := by
  rcases h with h | ⟨h1, h2, h3, h4⟩
  · exact .inl h.symm
  · exact .inr ⟨h1, h2.symm, h4, h3⟩
theorem Eqp.trans {v : Lv} {p q r : Pr} (h : Eqp v p q) (h' : Eqp v q r) : Eqp v p r := by
  rcases h with rfl | ⟨h1, h2, h3, h4⟩
  · exact h'
  · rcases h' with rfl | ⟨k1, k2, k3, k4⟩
    · exact .inr ⟨h1, h2, h3, h4⟩
    · exact .inr ⟨h1, h2.trans k2, h3, k4⟩
theorem Eqs.refl : ∀ {vs : List Lv} {ps : List Pr}, Eqs vs ps ps
  | [], ps => rfl
  | v :: vs, [] => rfl
  | v :: vs, p :: ps => ⟨.refl, Eqs.refl⟩
theorem Eqp.setl {v : Lv} {p : Pr} : Eqp v p (setlP v p) := by
  obtain ⟨t, l, c⟩ := v
  obtain ⟨a, b⟩ := p
  unfold setlP
  cases c with
  | some c => simp [spare, Eqp]
  | none =>
    by_cases h : 0 < spare ⟨t, l, none⟩ (a, b)
    · rw [if_pos h]
      simp only [spare] at h ⊢
      refine .inr ⟨rfl, ?_, ?_, ?_⟩ <;> simp only <;> omega
    · rw [if_neg h]; exact .refl
theorem Eqs.setl : ∀ {vs : List Lv} {ps : List Pr}, ps.length = vs.length → Eqs vs ps (setlM vs ps)
  | [], [], _ => rfl
  | [], p :: ps, h => by simp at h
  | v :: vs, [], h => by simp at h
  | v :: vs, p :: ps, h => ⟨.setl, Eqs.setl (by simpa using h)⟩
theorem Eqs.len : ∀ {vs : List Lv} {ps qs : List Pr}, Eqs vs ps qs → qs.length = ps.length
  | [], ps, qs, h => by rw [show ps = qs from h]
  | v :: vs, [], qs, h => by cases qs <;> simp [Eqs] at h ⊢
  | v :: vs, p :: ps, [], h => h.elim
  | v :: vs, p :: ps, q :: qs, h => by rw [List.length_cons, List.length_cons, Eqs.len h.2]
theorem Eqp.plus {v : Lv} {p q : Pr} {s : Int} (h : Eqp v p q) (hs : s = 0 ∨ s = 1) : Eqp v (plusM p s) (plusM q s) ∧ lwonP v (plusM p s) s = lwonP v (plusM q s) s := by
  rcases h with rfl | ⟨h1, h2, h3, h4⟩
  · exact ⟨.refl, rfl⟩
  · obtain ⟨t, l, c⟩ := v
    obtain ⟨a, b⟩ := p
    obtain ⟨a', b'⟩ := q
    simp only at h1 h2 h3 h4
    subst h1
    rcases hs with rfl | rfl
    · refine ⟨.inr ⟨rfl, ?_, ?_, ?_⟩, ?_⟩
      · simp [plusM]; omega
      · simp [plusM]; omega
      · simp [plusM]; omega
      · rw [Bool.eq_iff_iff]
        simp [lwonP, lwon, plusM, ownP]; omega
    · refine ⟨.inr ⟨rfl, ?_, ?_, ?_⟩, ?_⟩
      · simp [plusM]; omega
      · simp [plusM]; omega
      · simp [plusM]; omega
      · rw [Bool.eq_iff_iff]
        simp [lwonP, lwon, plusM, ownP]; omega
theorem Eqs.after : ∀ {vs : List Lv} {ps qs : List Pr} {s : Int}, Eqs vs ps qs → s = 0 ∨ s = 1 → (afterL vs ps s).2 = (afterL vs qs s).2 ∧ Eqs vs (afterL vs ps s).1 (afterL vs qs s).1
  | [], ps, qs, s, h, _ => by rw [show ps = qs from h]; exact ⟨rfl, .refl⟩
  | v :: vs, [], qs, s, h, _ => by cases qs <;> simp [Eqs] at h ⊢; exact .refl
  | v :: vs, p :: ps, [], s, h, _ => h.elim
  | v :: vs, p :: ps, q :: qs, s, h, hs => by
    obtain ⟨e1, e2⟩ := h.1.plus hs
    have f1 : ∀ p (vs : List Lv) (ps : List Pr), lwonP v (plusM p s) s = false → afterL (v :: vs) (p :: ps) s = (plusM p s :: ps, none) := fun p vs ps hw => by unfold afterL; rw [hw]; rfl
    have f2 : ∀ p (ps : List Pr), lwonP v (plusM p s) s = true → afterL [v] (p :: ps) s = (plusM p s :: ps, some s) := fun p ps hw => by unfold afterL; rw [hw]; rfl
    have f3 : ∀ p v2 (vs : List Lv) (ps : List Pr), lwonP v (plusM p s) s = true → afterL (v :: v2 :: vs) (p :: ps) s = ((0, 0) :: (afterL (v2 :: vs) ps s).1, (afterL (v2 :: vs) ps s).2) := fun p v2 vs ps hw => by
      rw [afterL, hw]
      · rfl
      · intro h; cases h
    cases hw : lwonP v (plusM p s) s with
    | false =>
      have hw' := e2.symm.trans hw
      rw [f1 p vs ps hw, f1 q vs qs hw']
      exact ⟨rfl, e1, h.2⟩
    | true =>
      have hw' := e2.symm.trans hw
      cases vs with
      | nil => rw [f2 p ps hw, f2 q qs hw']; exact ⟨rfl, e1, h.2⟩
      | cons v2 vs =>
        obtain ⟨i1, i2⟩ := Eqs.after (s := s) h.2 hs
        rw [f3 p v2 vs ps hw, f3 q v2 vs qs hw']
        exact ⟨i1, .refl, i2⟩

end Sf
end

section
set_option Elab.async false
set_option maxRecDepth 100000
set_option linter.all false
set_option maxHeartbeats 4000000
namespace Sf
open PySem L2
/-! the least points of a side -/
inductive Lst (vs : List Lv) (s : Int) : List Pr → Nat → Prop
  | fin {st : List Pr} : (afterL vs st s).2 ≠ none → Lst vs s st 1
  | own {st : List Pr} {k : Nat} : (afterL vs st s).2 = none → Lst vs s (afterL vs st s).1 k → Lst vs s st (k + 1)
  | oth {st : List Pr} {k : Nat} : (afterL vs st (1 - s)).2 = none → Lst vs s (afterL vs st (1 - s)).1 k → Lst vs s st k
theorem oth01 {s : Int} (hs : s = 0 ∨ s = 1) : 1 - s = 0 ∨ 1 - s = 1 := by omega
theorem Lst.pos {vs : List Lv} {s : Int} {st : List Pr} {k : Nat} (h : Lst vs s st k) : 1 ≤ k := by
  induction h with
  | fin _ => omega
  | own _ _ ih => omega
  | oth _ _ ih => exact ih
theorem Lst.eqs {vs : List Lv} {s : Int} {st : List Pr} {k : Nat} (h : Lst vs s st k) (hs : s = 0 ∨ s = 1) : ∀ {qs : List Pr}, Eqs vs st qs → Lst vs s qs k := by
  induction h with
  | fin h => intro qs e; exact .fin (by rw [← (e.after hs).1]; exact h)
  | own h _ ih => intro qs e; exact .own (by rw [← (e.after hs).1]; exact h) (ih (e.after hs).2)
  | oth h _ ih => intro qs e; exact .oth (by rw [← (e.after (oth01 hs)).1]; exact h) (ih (e.after (oth01 hs)).2)
theorem Eqs.symm : ∀ {vs : List Lv} {ps qs : List Pr}, Eqs vs ps qs → Eqs vs qs ps
  | [], ps, qs, h => by rw [show ps = qs from h]; exact .refl
  | v :: vs, [], qs, h => by cases qs with
    | nil => exact .refl
    | cons q qs => simp [Eqs] at h
  | v :: vs, p :: ps, [], h => h.elim
  | v :: vs, p :: ps, q :: qs, h => ⟨h.1.symm, Eqs.symm h.2⟩
def IsL (vs : List Lv) (s : Int) (st : List Pr) (m : Nat) : Prop := Lst vs s st m ∧ ∀ k, Lst vs s st k → m ≤ k
theorem least_nat {P : Nat → Prop} : ∀ (n : Nat), P n → ∃ m, P m ∧ ∀ k, P k → m ≤ k := by
  intro n
  induction n using Nat.strongRecOn with
  | _ n ih =>
    intro h
    by_cases c : ∃ k, k < n ∧ P k
    · obtain ⟨k, hk, hp⟩ := c; exact ih k hk hp
    · exact ⟨n, h, fun k hk => by
        rcases Nat.lt_or_ge k n with z | z
        · exact absurd ⟨k, z, hk⟩ c
        · exact z⟩
theorem IsL.uniq {vs : List Lv} {s : Int} {st : List Pr} {m n : Nat} (h : IsL vs s st m) (h' : IsL vs s st n) : m = n := Nat.le_antisymm (h.2 _ h'.1) (h'.2 _ h.1)
theorem IsL.eqs {vs : List Lv} {s : Int} {st qs : List Pr} {m : Nat} (h : IsL vs s st m) (hs : s = 0 ∨ s = 1) (e : Eqs vs st qs) : IsL vs s qs m := ⟨h.1.eqs hs e, fun k hk => h.2 k (hk.eqs hs e.symm)⟩
theorem lst_straight {vs : List Lv} {s : Int} (h0 : 1 ≤ vs.length) (hv : ∀ v ∈ vs, v.Ok) (hs : s = 0 ∨ s = 1) : ∀ (n : Nat) (st : List Pr), live vs st → st.length = vs.length → (NN vs st s).toNat = n → Lst vs s st n
  | 0, st, lv, hl, hn => by
    have := NN_pos lv hv hs
    omega
  | n + 1, st, lv, hl, hn => by
    obtain ⟨n1, n2⟩ := NN_step lv hv hs h0 hl
    cases ha : (afterL vs st s).2 with
    | none =>
      have hn' : (NN vs (afterL vs st s).1 s).toNat = n := by rw [n1 ha]; omega
      exact .own ha (lst_straight h0 hv hs n _ ((live.step lv hv hs).2.1 ha) (by rw [afterL_len]; exact hl) hn')
    | some w =>
      have hk : n = 0 := by
        have : ¬ (1 < NN vs st s) := fun h => by rw [n2.mpr h] at ha; cases ha
        omega
      subst hk
      exact .fin (by rw [ha]; simp)
theorem isL_ex {vs : List Lv} {s : Int} {st : List Pr} (h0 : 1 ≤ vs.length) (hv : ∀ v ∈ vs, v.Ok) (hs : s = 0 ∨ s = 1) (lv : live vs st) (hl : st.length = vs.length) : ∃ m, IsL vs s st m ∧ m ≤ (NN vs st s).toNat := by
  have h := lst_straight h0 hv hs _ st lv hl rfl
  obtain ⟨m, h1, h2⟩ := least_nat _ h
  exact ⟨m, ⟨h1, h2⟩, h2 _ h⟩
/-! settled states -/
theorem setlP_cases (v : Lv) (p : Pr) : (v.c = none ∧ 0 < min p.1 p.2 - v.t + 1 ∧ setlP v p = (p.1 - (min p.1 p.2 - v.t + 1), p.2 - (min p.1 p.2 - v.t + 1))) ∨ ((v.c = none → min p.1 p.2 - v.t + 1 ≤ 0) ∧ setlP v p = p) := by
  have e : setlP v p = if 0 < spare v p then (p.1 - spare v p, p.2 - spare v p) else p := rfl
  cases hc : v.c with
  | some c =>
    have hs : spare v p = 0 := by unfold spare; rw [hc]
    refine .inr ⟨fun h => (by cases h), ?_⟩
    rw [e, hs, if_neg (by omega)]
  | none =>
    have hs : spare v p = min p.1 p.2 - v.t + 1 := by unfold spare; rw [hc]
    by_cases h : 0 < spare v p
    · refine .inl ⟨rfl, by omega, ?_⟩
      rw [e, if_pos h, hs]
    · refine .inr ⟨fun _ => by omega, ?_⟩
      rw [e, if_neg h]
theorem NT.setl {v : Lv} {p : Pr} (h : NT v p) : NT v (setlP v p) := by
  rcases setlP_cases v p with ⟨hc, h0, e⟩ | ⟨_, e⟩
  · obtain ⟨h1, h2, h3⟩ := h
    rw [e]
    refine ⟨?_, ?_, fun c e => by rw [hc] at e; cases e⟩
    · simp only; omega
    · simp only; omega
  · rw [e]; exact h
theorem live.setl : ∀ {vs : List Lv} {ps : List Pr}, live vs ps → live vs (setlM vs ps)
  | [], ps, _ => by cases ps <;> simp [setlM, live]
  | v :: vs, [], _ => by simp [setlM, live]
  | v :: vs, p :: ps, h => ⟨h.1.setl, live.setl h.2⟩
def nnl (st : List Pr) : Prop := ∀ p ∈ st, 0 ≤ p.1 ∧ 0 ≤ p.2
theorem nnl.setl : ∀ {vs : List Lv} {ps : List Pr}, nnl ps → (∀ v ∈ vs, v.Ok) → nnl (setlM vs ps)
  | [], ps, _, _ => by cases ps <;> simp [setlM, nnl]
  | v :: vs, [], _, _ => by simp [setlM, nnl]
  | v :: vs, p :: ps, h, hv => fun q hq => by
    rcases List.mem_cons.mp hq with rfl | hq
    · have hp := h p (by simp)
      have ht := (hv v (by simp)).1
      rcases setlP_cases v p with ⟨hc, h0, e⟩ | ⟨_, e⟩
      · rw [e]; simp only; omega
      · rw [e]; exact hp
    · exact nnl.setl (fun p hp => h p (by simp [hp])) (fun v hv' => hv v (by simp [hv'])) q hq
theorem nnl.after : ∀ {vs : List Lv} {ps : List Pr} {s : Int}, nnl ps → nnl (afterL vs ps s).1
  | [], ps, s, h => by cases ps <;> simpa [afterL] using h
  | v :: vs, [], s, h => by simpa [afterL] using h
  | v :: vs, p :: ps, s, h => by
    have hp := h p (by simp)
    have hq : 0 ≤ (plusM p s).1 ∧ 0 ≤ (plusM p s).2 := by unfold plusM; split <;> simp <;> omega
    have ht : nnl ps := fun q hq => h q (by simp [hq])
    have cons : ∀ (q : Pr) (qs : List Pr), (0 ≤ q.1 ∧ 0 ≤ q.2) → nnl qs → nnl (q :: qs) := fun q qs h1 h2 r hr => by
      rcases List.mem_cons.mp hr with rfl | hr
      · exact h1
      · exact h2 r hr
    cases hw : lwonP v (plusM p s) s with
    | false =>
      have e : afterL (v :: vs) (p :: ps) s = (plusM p s :: ps, none) := by unfold afterL; rw [hw]; rfl
      rw [e]; exact cons _ _ hq ht
    | true =>
      cases vs with
      | nil =>
        have e : afterL [v] (p :: ps) s = (plusM p s :: ps, some s) := by unfold afterL; rw [hw]; rfl
        rw [e]; exact cons _ _ hq ht
      | cons v2 vs =>
        have e : afterL (v :: v2 :: vs) (p :: ps) s = ((0, 0) :: (afterL (v2 :: vs) ps s).1, (afterL (v2 :: vs) ps s).2) := by
          rw [afterL, hw]
          · rfl
          · intro h; cases h
        rw [e]; exact cons _ _ (by simp) (nnl.after ht)
theorem setlP_idem {v : Lv} {p : Pr} : setlP v (setlP v p) = setlP v p := by
  rcases setlP_cases v p with ⟨hc, h0, e⟩ | ⟨_, e⟩
  · rw [e]
    rcases setlP_cases v (p.1 - (min p.1 p.2 - v.t + 1), p.2 - (min p.1 p.2 - v.t + 1)) with ⟨_, h1, _⟩ | ⟨_, e1⟩
    · simp only at h1; omega
    · exact e1
  · rw [e, e]
theorem setlM_idem : ∀ {vs : List Lv} {ps : List Pr}, setlM vs (setlM vs ps) = setlM vs ps
  | [], ps => by cases ps <;> simp [setlM]
  | v :: vs, [] => by simp [setlM]
  | v :: vs, p :: ps => by simp [setlM, setlP_idem, setlM_idem (vs := vs) (ps := ps)]
/-- a settled score of a match that goes on -/
structure OkS (vs : List Lv) (st : List Pr) : Prop where
  len : st.length = vs.length
  lv : live vs st
  nn : nnl st
  se : setlM vs st = st
theorem OkS.of {vs : List Lv} {st : List Pr} (hv : ∀ v ∈ vs, v.Ok) (hl : st.length = vs.length) (lv : live vs st) (nn : nnl st) : OkS vs (setlM vs st) := ⟨setlM_len hl, lv.setl, nn.setl hv, setlM_idem⟩
theorem OkS.step {vs : List Lv} {st : List Pr} {s : Int} (hv : ∀ v ∈ vs, v.Ok) (h : OkS vs st) (hs : s = 0 ∨ s = 1) (ha : (afterL vs st s).2 = none) : OkS vs (setlM vs (afterL vs st s).1) :=
  .of hv (by rw [afterL_len]; exact h.len) ((live.step h.lv hv hs).2.1 ha) h.nn.after
def rngN (n : Nat) : List Int := (List.range n).map Int.ofNat
def pairsL (v : Lv) : List Pr := (rngN (v.t + 3).toNat).flatMap fun a => (rngN (v.t + 3).toNat).map fun b => (a, b)
def boxL : List Lv → List (List Pr)
  | [] => [[]]
  | v :: vs => (pairsL v).flatMap fun p => (boxL vs).map fun q => p :: q
theorem mem_rngN {n : Nat} {i : Int} (h : 0 ≤ i) (h' : i < n) : i ∈ rngN n := by
  unfold rngN
  rw [List.mem_map]
  exact ⟨i.toNat, List.mem_range.mpr (by omega), by simp; omega⟩
theorem len_flat_const {α β : Type} {f : α → List β} {k : Nat} : ∀ {l : List α}, (∀ a ∈ l, (f a).length = k) → (l.flatMap f).length = l.length * k
  | [], _ => by simp
  | a :: l, h => by
    rw [List.flatMap_cons, List.length_append, len_flat_const fun a ha => h a (by simp [ha]), h a (by simp), List.length_cons, Nat.add_mul]; omega
theorem nodup_le {α : Type} [DecidableEq α] : ∀ {l b : List α}, l.Nodup → (∀ x ∈ l, x ∈ b) → l.length ≤ b.length
  | [], b, _, _ => Nat.zero_le _
  | x :: l, b, hn, h => by
    obtain ⟨h1, h2⟩ := List.nodup_cons.mp hn
    have hb := h x (by simp)
    have := nodup_le (l := l) (b := b.erase x) h2 fun y hy => (List.mem_erase_of_ne (by rintro rfl; exact h1 hy)).mpr (h y (by simp [hy]))
    rw [List.length_erase_of_mem hb] at this
    have := List.length_pos_of_mem hb
    rw [List.length_cons]; omega

end Sf
end

section
set_option Elab.async false
set_option maxRecDepth 100000
set_option linter.all false
set_option maxHeartbeats 4000000
namespace Sf
open PySem L2
/-! scores as keys -/
theorem keys_pr : ∀ st : List Pr, D.keys (st.map prD) = some (st.map fun p => NestedKey.tup [.num p.1, .num p.2])
  | [] => by simp [D.keys]
  | p :: st => by
    rw [List.map_cons]
    unfold D.keys
    rw [keys_pr st]
    simp [prD, D.key, D.keys]
theorem key_st (st : List Pr) : D.key (stD st) = some (.tup (st.map fun p => NestedKey.tup [.num p.1, .num p.2])) := by
  unfold D.key
  rw [keys_pr]; rfl
theorem keyEq_st {a b : List Pr} : keyEq (stD a) (stD b) = decide (a = b) := by
  unfold keyEq
  rw [key_st, key_st]
  simp only
  rw [← NestedKey.decide_eq]
  apply decide_eq_decide.mpr
  constructor
  · intro h
    have h := NestedKey.tup.inj h
    have inj : ∀ (a b : List Pr), (a.map fun p => NestedKey.tup [.num p.1, .num p.2]) = (b.map fun p => NestedKey.tup [.num p.1, .num p.2]) → a = b := by
      intro a
      induction a with
      | nil => intro b h; cases b with
        | nil => rfl
        | cons => simp at h
      | cons p a ih =>
        intro b h
        cases b with
        | nil => simp at h
        | cons q b =>
          simp only [List.map_cons, List.cons.injEq, NestedKey.tup.injEq, NestedKey.num.injEq, and_true] at h
          rw [ih b h.2]
          obtain ⟨p1, p2⟩ := p
          obtain ⟨q1, q2⟩ := q
          simp only at h
          rw [h.1.1, h.1.2]
    exact inj a b h
  · rintro rfl; rfl
theorem keyOk_st {a : List Pr} : keyOk (stD a) = true := by
  unfold keyOk
  rw [key_st]
  have hd : NestedKey.depthAll (a.map fun p => NestedKey.tup [.num p.1, .num p.2]) ≤ 1 := by
    induction a with
    | nil => simp [NestedKey.depthAll]
    | cons p a ih =>
      rw [List.map_cons]
      unfold NestedKey.depthAll
      simp only [NestedKey.depth, NestedKey.depthAll]
      omega
  show (true && Nat.ble (NestedKey.depth (.tup _)) 8) = true
  unfold NestedKey.depth
  rw [Nat.ble_eq_true_of_le (by omega)]; rfl

end Sf
end

section
set_option Elab.async false
set_option maxRecDepth 100000
set_option linter.all false
set_option maxHeartbeats 4000000
namespace Sf
open PySem L2
/-! the program's least -/
mutual
theorem lowD_up {n : Nat} : ∀ (d : D), lowD 0 d = true → lowD n d = true
  | .tup l, h => lowL_up l h
  | .lst l, h => lowL_up l h
  | .scr l, h => lowL_up l h
  | .loc k, h => absurd (Nat.le_of_ble_eq_true h) (Nat.not_succ_le_zero _)
  | .und, _ => rfl
  | .non, _ => rfl
  | .bl _, _ => rfl
  | .int _, _ => rfl
  | .str _, _ => rfl
  | .glob _, _ => rfl
theorem lowL_up {n : Nat} : ∀ (l : List D), lowL 0 l = true → lowL n l = true
  | [], _ => rfl
  | d :: l, h => by
    have h : (lowD 0 d && lowL 0 l) = true := h
    rw [Bool.and_eq_true] at h
    show (lowD n d && lowL n l) = true
    rw [lowD_up d h.1, lowL_up l h.2]; rfl
end
theorem lowO_up {n : Nat} {o : Ob} (h : lowO 0 o = true) : lowO n o = true := by
  cases o with
  | lst l => exact lowL_up l h
  | dct lk kvs =>
    have h : (kvs.all fun p => lowD 0 p.1 && lowD 0 p.2) = true := h
    show (kvs.all fun p => lowD n p.1 && lowD n p.2) = true
    rw [List.all_eq_true] at h ⊢
    intro p hp
    have := h p hp
    rw [Bool.and_eq_true] at this ⊢
    exact ⟨lowD_up _ this.1, lowD_up _ this.2⟩
  | dki lk kvs =>
    have h : (kvs.all fun p => lowD 0 p.2) = true := h
    show (kvs.all fun p => lowD n p.2) = true
    rw [List.all_eq_true] at h ⊢
    exact fun p hp => lowD_up _ (h p hp)
  | ins fs =>
    have h : (fs.all fun p => lowD 0 p.2) = true := h
    show (fs.all fun p => lowD n p.2) = true
    rw [List.all_eq_true] at h ⊢
    exact fun p hp => lowD_up _ (h p hp)

end Sf
end

section
set_option Elab.async false
set_option maxRecDepth 100000
set_option linter.all false
set_option maxHeartbeats 4000000
namespace Sf
open PySem L2
/-! an empty list; an item of a dict is set -/
@[simp] theorem x_asgX {fe fo fi : FE} {env : En} {S : Sto} : sAsgX fe fo fi env S = (fe env S).bindS fun x S1 => (fo env S1).bindS fun o S2 => (fi env S2).bindS fun i S3 => match setX o i x S3 with
  | some S4 => .nx env S4
  | none => .bad := rfl
theorem neNil {d : D} {n : Nat} {l : List D} {S : Sto} (h : d = .lst l ∨ ∃ n, d = .loc n ∧ S[n]? = some (.lst l)) (hl : plL n l = true) (hn : n < 60) : oNe d (.lst []) S = some (.bl (!l.isEmpty), S) := by
  have hd : deref S d = .lst l := by
    rcases h with rfl | ⟨n, rfl, h⟩
    · rfl
    · unfold deref; simp only; rw [h]
  obtain ⟨ps, k1, k2, k3⟩ := plL_ok n l hl
  have e := eqB_gen (x := d) (y := .lst []) (S := S) (p := .list ps) (q := .list []) (by rw [hd]; unfold D.py; rw [k1]; rfl) (by unfold deref D.py; simp [D.pys]) (by unfold SeqAt.shaped PyData.canLay0 PyData.depth; rw [k2]; simp; omega) rfl
  unfold oNe
  rw [e]
  cases l with
  | nil => rw [show D.pys [] = some [] from by simp [D.pys]] at k1; cases k1; simp [PyData.eqv, PyData.eqvAll]
  | cons d l =>
    unfold D.pys at k1
    cases hd : D.py d with
    | none => rw [hd] at k1; cases k1
    | some pd =>
      cases hl : D.pys l with
      | none => rw [hd, hl] at k1; cases k1
      | some pl' => rw [hd, hl] at k1; cases k1; simp [PyData.eqv, PyData.eqvAll]

end Sf
end

section
set_option Elab.async false
set_option maxRecDepth 100000
set_option linter.all false
set_option maxHeartbeats 4000000
namespace Sf
open PySem L2
/-! a statement that goes on -/
theorem sSeq_nx {f g : FS} {env e' : En} {S S' : Sto} (h : f env S = .nx e' S') : sSeq f g env S = g e' S' := by
  unfold sSeq
  rw [h]
  rfl

end Sf
end

section
set_option Elab.async false
set_option maxRecDepth 100000
set_option linter.all false
set_option maxHeartbeats 4000000
namespace Sf
open PySem L2
/-! small steps -/
theorem orFF {t t' : FT} {env : En} {S S1 S2 : Sto} (h : t env S = .ok false S1) (h' : t' env S1 = .ok false S2) : Sf.tOr t t' env S = .ok false S2 := by rw [x_or, h, x_bind, cond_false, h']
theorem andFF {t t' : FT} {env : En} {S S1 : Sto} (h : t env S = .ok false S1) : Sf.tAnd t t' env S = .ok false S1 := by rw [x_and, h, x_bind, cond_false]
theorem andTT {t t' : FT} {b : Bool} {env : En} {S S1 S2 : Sto} (h : t env S = .ok true S1) (h' : t' env S1 = .ok b S2) : Sf.tAnd t t' env S = .ok b S2 := by rw [x_and, h, x_bind, cond_true, h']
theorem valF {a : FE} {b : Bool} {env : En} {S S1 : Sto} (h : a env S = .ok (.bl b) S1) : tVal a env S = .ok b S1 := by rw [x_val, h, x_bind]
theorem op2F {o : Op2} {a b : FE} {env : En} {S S1 S2 S3 : Sto} {x y z : D} (ha : a env S = .ok x S1) (hb : b env S1 = .ok y S2) (ho : o x y S2 = some (z, S3)) : fOp2 o a b env S = .ok z S3 := by rw [x_op2, ha, x_bind, hb, x_bind, ho, x_outO]
theorem callF {F : Fn} {fs : FA} {env : En} {S S1 S2 : Sto} {ds : List D} {d : D} (h : fs env S = .ok ds S1) (hF : F ds S1 = .ok d S2) : fCall F fs env S = .ok d S2 := by rw [x_call, h, x_bind, hF]
theorem consF {a : FE} {fs : FA} {env : En} {S S1 S2 : Sto} {x : D} {xs : List D} (h : a env S = .ok x S1) (h' : fs env S1 = .ok xs S2) : fCons a fs env S = .ok (x :: xs) S2 := by rw [x_cons, h, x_bind, h', x_bind]
theorem fandT {a b : FE} {env : En} {S S1 S2 : Sto} {d : D} (h : a env S = .ok (.bl true) S1) (h' : b env S1 = .ok d S2) : fAnd a b env S = .ok d S2 := by rw [x_fand, h, x_bind]; exact h'
theorem sIf_no {t : FT} {f g : FS} {env : En} {S S' : Sto} (h : t env S = .ok false S') : sIf t f g env S = g env S' := by rw [x_sif, h]; rfl
theorem sIf_yes {t : FT} {f g : FS} {env : En} {S S' : Sto} (h : t env S = .ok true S') : sIf t f g env S = f env S' := by rw [x_sif, h]; rfl
theorem asgF {i : Nat} {a : FE} {env : En} {S S1 : Sto} {x : D} (h : a env S = .ok x S1) : sAsg i a env S = .nx (env.set i x) S1 := by rw [x_asg, h]; rfl
theorem ifT {t : FT} {a b : FE} {env : En} {S S1 : Sto} (h : t env S = .ok true S1) : fIf t a b env S = a env S1 := by rw [x_if, h]; rfl
theorem ifF {t : FT} {a b : FE} {env : En} {S S1 : Sto} (h : t env S = .ok false S1) : fIf t a b env S = b env S1 := by rw [x_if, h]; rfl
theorem oIne {w : Option Int} {S : Sto} (hw : ∀ k, w = some k → k = 0 ∨ k = 1) : oNe (oI w) (oI w) S = some (.bl false, S) := by
  cases w with
  | none => rfl
  | some k => rcases hw k rfl with rfl | rfl <;> rfl
theorem intNe {k : Int} {S : Sto} : oNe (.int k) (.int k) S = some (.bl false, S) := by rw [x_neI, decide_eq_true rfl]; rfl
theorem opNF0 {o : OpN} {fs : FA} {env : En} {S S1 S2 : Sto} {ds : List D} {d : D} (h : fs env S = .ok ds S1) (ho : o ds S1 = some (d, S2)) : fOpN o fs env S = .ok d S2 := by rw [x_opN, h, x_bind, ho, x_outO]

end Sf
end

section
set_option Elab.async false
set_option maxRecDepth 100000
set_option linter.all false
set_option maxHeartbeats 4000000
namespace Sf
open PySem L2
/-! pairs of scores as keys -/
abbrev Ky := List Pr × List Pr
def kyD (k : Ky) : D := .tup [stD k.1, stD k.2]
def kN (st : List Pr) : NestedKey := .tup (st.map fun p => NestedKey.tup [.num p.1, .num p.2])
theorem key_stN (st : List Pr) : D.key (stD st) = some (kN st) := key_st st
theorem kN_inj {a b : List Pr} (h : kN a = kN b) : a = b := by
  have e1 : keyEq (stD a) (stD b) = keyEq (stD b) (stD b) := by
    unfold keyEq
    rw [key_stN, key_stN, h]
  rw [keyEq_st, keyEq_st, decide_eq_true rfl] at e1
  exact of_decide_eq_true e1
theorem key_ky (k : Ky) : D.key (kyD k) = some (.tup [kN k.1, kN k.2]) := by
  unfold kyD
  unfold D.key
  simp only [D.keys, key_stN]
  rfl
theorem keyEq_ky {a b : Ky} : keyEq (kyD a) (kyD b) = decide (a = b) := by
  unfold keyEq
  rw [key_ky, key_ky]
  simp only
  rw [← NestedKey.decide_eq]
  apply decide_eq_decide.mpr
  constructor
  · intro h
    have h := NestedKey.tup.inj h
    simp only [List.cons.injEq, and_true] at h
    exact Prod.ext (kN_inj h.1) (kN_inj h.2)
  · rintro rfl; rfl
theorem kN_depth (a : List Pr) : NestedKey.depth (kN a) ≤ 2 := by
  have hd : NestedKey.depthAll (a.map fun p => NestedKey.tup [.num p.1, .num p.2]) ≤ 1 := by
    induction a with
    | nil => simp [NestedKey.depthAll]
    | cons p a ih =>
      rw [List.map_cons]
      unfold NestedKey.depthAll
      simp only [NestedKey.depth, NestedKey.depthAll]
      omega
  unfold kN NestedKey.depth
  omega
theorem keyOk_ky {k : Ky} : keyOk (kyD k) = true := by
  unfold keyOk
  rw [key_ky]
  have h1 := kN_depth k.1
  have h2 := kN_depth k.2
  show (true && Nat.ble (NestedKey.depth (.tup _)) 8) = true
  unfold NestedKey.depth
  simp only [NestedKey.depthAll]
  rw [Nat.ble_eq_true_of_le (by omega)]; rfl
/-! rows as sources -/
def kyR (f g : List Lv) (r : List Int) : Ky := (setlM f (playL f r).st, setlM g (playL g r).st)
def valR (f g : List Lv) (r : List Int) : D := match r.getLast? with
  | none => .non
  | some s => .tup [kyD (kyR f g r.dropLast), .int s]
def srcE (f g : List Lv) (R : List (List Int)) : List (D × D) := R.map fun r => (kyD (kyR f g r), valR f g r)
section
variable {f g : List Lv} {R : List (List Int)} {r : List Int} {k : Ky}
theorem valR_nil : valR f g [] = .non := rfl
theorem valR_snoc {q : List Int} {s : Int} : valR f g (q ++ [s]) = .tup [kyD (kyR f g q), .int s] := by unfold valR; simp
theorem getX_no : ∀ {R : List (List Int)}, k ∉ R.map (kyR f g) → getX (srcE f g R) (kyD k) = none
  | [], _ => rfl
  | x :: R, h => by
    simp only [List.map_cons, List.mem_cons, not_or] at h
    have ih := getX_no (R := R) h.2
    unfold getX at ih ⊢
    rw [show srcE f g (x :: R) = (kyD (kyR f g x), valR f g x) :: srcE f g R from rfl, List.find?_cons]
    simp only [keyEq_ky]
    rw [decide_eq_false fun e => h.1 e.symm]
    simp only
    exact ih
theorem getX_yes : ∀ {R : List (List Int)}, (R.map (kyR f g)).Nodup → r ∈ R → getX (srcE f g R) (kyD (kyR f g r)) = some (valR f g r)
  | [], _, h => by simp at h
  | x :: R, hn, h => by
    rw [List.map_cons, List.nodup_cons] at hn
    unfold getX
    rw [show srcE f g (x :: R) = (kyD (kyR f g x), valR f g x) :: srcE f g R from rfl, List.find?_cons]
    simp only [keyEq_ky]
    by_cases e : kyR f g x = kyR f g r
    · rw [decide_eq_true e]
      rcases List.mem_cons.mp h with rfl | h
      · rfl
      · exact absurd (by rw [e]; exact List.mem_map.mpr ⟨r, h, rfl⟩) hn.1
    · rw [decide_eq_false e]
      simp only
      rcases List.mem_cons.mp h with rfl | h
      · exact absurd rfl e
      · have ih := getX_yes (R := R) hn.2 h
        unfold getX at ih
        exact ih
theorem find_ky {q : Nat} {S : Sto} (h : S[q]? = some (.dct false (srcE f g R))) : findD (.loc q) (kyD k) S = some (getX (srcE f g R) (kyD k)) := by
  show (match S[q]? with
    | some (.dct _ kvs) => bif keyOk (kyD k) then some (getX kvs (kyD k)) else none
    | some (.dki _ kvs) => (match kyD k with
      | .int i => some (getI kvs i)
      | _ => none)
    | _ => none) = _
  rw [h]; simp only; rw [keyOk_ky]; rfl
theorem nin_ky {q : Nat} {S : Sto} (hn : (R.map (kyR f g)).Nodup) (h : S[q]? = some (.dct false (srcE f g R))) : oNinX (kyD k) (.loc q) S = some (.bl (!decide (k ∈ R.map (kyR f g))), S) := by
  unfold oNinX
  rw [find_ky h]
  by_cases hk : k ∈ R.map (kyR f g)
  · obtain ⟨r, hr, rfl⟩ := List.mem_map.mp hk
    rw [getX_yes hn hr, decide_eq_true hk]; rfl
  · rw [getX_no hk, decide_eq_false hk]; rfl
theorem set_ky {q : Nat} {S : Sto} {v : D} (h : S[q]? = some (.dct false (srcE f g R))) (hk : k ∉ R.map (kyR f g)) (hl : R.length < 16777216) : setX (.loc q) (kyD k) v S = some (S.set q (.dct false (srcE f g R ++ [(kyD k, v)]))) := by
  show (match S[q]? with
    | some (.dct false kvs) => bif keyOk (kyD k) && fitS kvs.length then some (S.set q (.dct false (putXD kvs (kyD k) v))) else none
    | some (.dki false kvs) => (match kyD k with
      | .int i => bif fitS kvs.length then some (S.set q (.dki false (putI kvs i v))) else none
      | _ => none)
    | _ => none) = _
  rw [h]
  simp only
  have : fitS (srcE f g R).length = true := fitS_of (by unfold srcE; rw [List.length_map]; exact hl)
  rw [keyOk_ky, this]
  simp only [Bool.and_true, cond_true]
  unfold putXD
  rw [getX_no hk]; rfl
theorem get_ky {q : Nat} {S : Sto} (hn : (R.map (kyR f g)).Nodup) (hr : r ∈ R) (h : S[q]? = some (.dct false (srcE f g R))) : oGetX (.loc q) (kyD (kyR f g r)) S = some (valR f g r, S) := by
  unfold oGetX
  rw [find_ky h, getX_yes hn hr]
end
/-! row_to -/
def rtC : FT := (tVal (fOp2 oIsN (fOp2 oGetX (fVar 0) (fVar 1)) (fCon .non)))
def rtB : FS := (sSeq (sAsgT [1, 3] (fOp2 oGetX (fVar 0) (fVar 1)))
    (sExpr (fMethL mAppend (fVar 2) (fCons (fVar 3) (fNil)))))
structure RowsOk (f g : List Lv) (R : List (List Int)) : Prop where
  nd : (R.map (kyR f g)).Nodup
  cl : ∀ q s, q ++ [s] ∈ R → q ∈ R
theorem t_rtW {f g : List Lv} {R : List (List Int)} {S : Sto} {n : Nat} (ho : RowsOk f g R) (h0 : S[0]? = some (.dct false (srcE f g R))) (hn : n = S.length) : ∀ (r : List Int) (fuel : Nat) (acc : List Int) (x3 : D), r ∈ R → r.length < fuel → acc.length + r.length < 16777216 →
    ∃ y1 y3, whileL rtC rtB fuel [.loc 0, kyD (kyR f g r), .loc n, x3] (S ++ [.lst (acc.map D.int)]) = .nx [.loc 0, y1, .loc n, y3] (S ++ [.lst ((acc ++ r.reverse).map D.int)]) := by
  have l0 : 0 < S.length := (List.getElem?_eq_some_iff.mp h0).1
  have hS : ∀ x : Ob, (S ++ [x])[0]? = some (.dct false (srcE f g R)) := fun x => by rw [List.getElem?_append_left l0]; exact h0
  have hN : ∀ x : Ob, (S ++ [x])[n]? = some x := fun x => by rw [hn]; simp
  intro r
  induction r using snoc_ind with
  | h0 =>
    intro fuel acc x3 hr hf _
    obtain ⟨fuel, rfl⟩ : ∃ m, fuel = m + 1 := ⟨fuel - 1, by omega⟩
    have e := get_ky ho.nd hr (hS (.lst (acc.map D.int)))
    refine ⟨kyD (kyR f g []), x3, ?_⟩
    rw [while_end (S2 := S ++ [.lst (acc.map D.int)]) (by
      unfold rtC
      exact valF (op2F (op2F rfl rfl e) rfl rfl))]
    simp
  | h1 q s ih =>
    intro fuel acc x3 hr hf hl
    obtain ⟨fuel, rfl⟩ : ∃ m, fuel = m + 1 := ⟨fuel - 1, by omega⟩
    have e := get_ky ho.nd hr (hS (.lst (acc.map D.int)))
    rw [valR_snoc] at e
    simp only [List.length_append, List.length_singleton] at hf hl
    have hb : rtB [.loc 0, kyD (kyR f g (q ++ [s])), .loc n, x3] (S ++ [.lst (acc.map D.int)]) = .nx [.loc 0, kyD (kyR f g q), .loc n, .int s] (S ++ [.lst ((acc ++ [s]).map D.int)]) := by
      have fl : fitS (acc.map D.int).length = true := fitS_of (by rw [List.length_map]; omega)
      have il : isLs (.loc n) (S ++ [.lst (acc.map D.int)]) = true := isLs_of (hN _)
      have ea : mAppend (.loc n) [.int s] (S ++ [.lst (acc.map D.int)]) = some (.non, S ++ [.lst ((acc ++ [s]).map D.int)]) := by
        rw [x_append, hN]
        simp only
        rw [fl, hn]
        simp
      unfold rtB
      rw [sSeq_nx (e' := [.loc 0, kyD (kyR f g q), .loc n, .int s]) (S' := S ++ [.lst (acc.map D.int)]) (by
        rw [x_asgT, op2F rfl rfl e]; rfl)]
      rw [x_expr]
      have : fMethL mAppend (fVar 2) (fCons (fVar 3) (fNil)) [.loc 0, kyD (kyR f g q), .loc n, .int s] (S ++ [.lst (acc.map D.int)]) = .ok .non (S ++ [.lst ((acc ++ [s]).map D.int)]) := by
        unfold fMethL
        show (bif isLs (.loc n) (S ++ [.lst (acc.map D.int)]) then outO (mAppend (.loc n) [.int s] (S ++ [.lst (acc.map D.int)])) else .bad) = _
        rw [il, ea]; rfl
      rw [this]; rfl
    obtain ⟨y1, y3, e2⟩ := ih fuel (acc ++ [s]) (.int s) (ho.cl q s hr) (by omega) (by simp; omega)
    refine ⟨y1, y3, ?_⟩
    rw [while_go (S2 := S ++ [.lst (acc.map D.int)]) (by
      unfold rtC
      exact valF (op2F (op2F rfl rfl e) rfl rfl)) hb, e2]
    simp
theorem lowD_upS : ∀ {o : Ob} {n : Nat}, lowO 0 o = true → lowO n o = true := fun {o n} h => lowO_up h
/-- a plain value is handed out, what was made is dropped -/
theorem end_plS {n0 n : Nat} {d : D} {S S' : Sto} (hd : pl n d = true) (hn : n < 9) (ht : S.take n0 = S') (hlt : n0 < S.length) (hS : ∀ o ∈ S', lowO 0 o = true) : fnEnd false n0 (.rt d S) = .ok d S' := by
  show (bif Nat.beq S.length n0 then Out.ok d S else match frzD 9 S n0 d with
    | some d' => (bif (S.take n0).all (lowO n0) then Out.ok d' (S.take n0) else .bad)
    | none => .bad) = _
  have hb : Nat.beq S.length n0 = false := by
    cases hb : Nat.beq S.length n0 with
    | false => rfl
    | true => have := Nat.eq_of_beq_eq_true hb; omega
  rw [hb, frz_pl d n 9 hd hn, ht]
  simp only [cond_false]
  have : S'.all (lowO n0) = true := by
    rw [List.all_eq_true]
    exact fun o ho => lowO_up (hS o ho)
  rw [this]; rfl
theorem t_row_to {f g : List Lv} {R : List (List Int)} {S : Sto} {r : List Int} (ho : RowsOk f g R) (h0 : S[0]? = some (.dct false (srcE f g R))) (hS : ∀ o ∈ S, lowO 0 o = true) (hr : r ∈ R) (hl : r.length < 16777216) :
    f_row_to [.loc 0, kyD (kyR f g r)] S = .ok (rowD r) S := by
  obtain ⟨y1, y3, e⟩ := t_rtW ho h0 rfl r 20000000 [] .und hr (by omega) (by simpa using hl)
  unfold f_row_to fn b_row_to
  show fnEnd false S.length (sSeq _ (sSeq (whileL rtC rtB 20000000) _) [.loc 0, kyD (kyR f g r), .und, .und] S) = _
  rw [sSeq_nx (e' := [.loc 0, kyD (kyR f g r), .loc S.length, .und]) (S' := S ++ [.lst []]) (by rfl)]
  have e : whileL rtC rtB 20000000 [.loc 0, kyD (kyR f g r), .loc S.length, .und] (S ++ [.lst []]) = _ := e
  rw [sSeq_nx e]
  have hN : ∀ x : Ob, (S ++ [x])[S.length]? = some x := fun x => by simp
  have er : oRev false (.loc S.length) (S ++ [.lst (([] ++ r.reverse).map D.int)]) = some (rowD r, S ++ [.lst (([] ++ r.reverse).map D.int)]) := by
    unfold oRev
    have : lsR (.loc S.length) (S ++ [.lst (([] ++ r.reverse).map D.int)]) = some (([] ++ r.reverse).map D.int) := by
      show (match (S ++ [Ob.lst (([] ++ r.reverse).map D.int)])[S.length]? with
        | some (Ob.lst l) => some l
        | _ => none) = _
      rw [hN]
    rw [this]
    simp only
    rw [x_mkF, fit_of (by simp; omega)]
    simp
  have e3 : fOp1 (oRev false) (fVar 2) [.loc 0, y1, .loc S.length, y3] (S ++ [.lst (([] ++ r.reverse).map D.int)]) = .ok (rowD r) (S ++ [.lst (([] ++ r.reverse).map D.int)]) := by
    rw [x_op1]
    show outO (oRev false (.loc S.length) (S ++ [.lst (([] ++ r.reverse).map D.int)])) = _
    rw [er]; rfl
  rw [x_ret, e3]
  exact end_plS (n0 := S.length) (d := rowD r) (S' := S) (n := 1) (S := S ++ [.lst (([] ++ r.reverse).map D.int)]) (by show plL 0 _ = true; exact plL_ints r) (by omega) (by simp) (by simp) hS

end Sf
end

section
set_option Elab.async false
set_option maxRecDepth 100000
set_option linter.all false
set_option maxHeartbeats 4000000
namespace Sf
open PySem L2
/-! parting: the plain part -/
theorem setlP_canon {v : Lv} {p q : Pr} (h : Eqp v p q) : setlP v p = setlP v q := by
  rcases h with rfl | ⟨h1, h2, h3, h4⟩
  · rfl
  · obtain ⟨t, l, c⟩ := v
    obtain ⟨a, b⟩ := p
    obtain ⟨a', b'⟩ := q
    simp only at h1 h2 h3 h4
    subst h1
    rcases setlP_cases ⟨t, l, none⟩ (a, b) with ⟨_, h0, e⟩ | ⟨h0, e⟩
    · rcases setlP_cases ⟨t, l, none⟩ (a', b') with ⟨_, k0, e'⟩ | ⟨k0, e'⟩
      · rw [e, e']; apply Prod.ext <;> simp only at h0 k0 ⊢ <;> omega
      · have k0 := k0 rfl
        rw [e, e']; apply Prod.ext <;> simp only at h0 k0 ⊢ <;> omega
    · have h0 := h0 rfl
      rcases setlP_cases ⟨t, l, none⟩ (a', b') with ⟨_, k0, e'⟩ | ⟨k0, e'⟩
      · rw [e, e']; apply Prod.ext <;> simp only at h0 k0 ⊢ <;> omega
      · have k0 := k0 rfl
        rw [e, e']; apply Prod.ext <;> simp only at h0 k0 ⊢ <;> omega
theorem setlM_canon : ∀ {vs : List Lv} {ps qs : List Pr}, Eqs vs ps qs → setlM vs ps = setlM vs qs
  | [], ps, qs, h => by rw [show ps = qs from h]
  | v :: vs, [], [], h => rfl
  | v :: vs, [], q :: qs, h => by simp [Eqs] at h
  | v :: vs, p :: ps, [], h => h.elim
  | v :: vs, p :: ps, q :: qs, h => by
    show setlP v p :: setlM vs ps = setlP v q :: setlM vs qs
    rw [setlP_canon h.1, setlM_canon h.2]
theorem nnl_playP {vs : List Lv} (rs : List Int) : nnl (playL vs rs).st := by
  induction rs using snoc_ind with
  | h0 => intro p hp; have := List.eq_of_mem_replicate hp; subst this; simp
  | h1 rs s ih =>
    rw [playL_snoc]
    unfold stepL
    cases (playL vs rs).w with
    | none => exact ih.after
    | some w => exact ih
theorem okS_play {vs : List Lv} {r : List Int} (hv : ∀ v ∈ vs, v.Ok) (hr : Sides r) (hw : (playL vs r).w = none) : OkS vs (setlM vs (playL vs r).st) := OkS.of hv st_len (live_of hv hr hw) (nnl_playP r)
theorem step_ky {vs : List Lv} {r : List Int} {s : Int} (hs : s = 0 ∨ s = 1) (hw : (playL vs r).w = none) :
    (afterL vs (setlM vs (playL vs r).st) s).2 = (playL vs (r ++ [s])).w ∧ setlM vs (afterL vs (setlM vs (playL vs r).st) s).1 = setlM vs (playL vs (r ++ [s])).st := by
  have e := Eqs.after (Eqs.setl (vs := vs) (ps := (playL vs r).st) st_len) hs
  rw [playL_snoc, stepL_none hw]
  exact ⟨e.1.symm, (setlM_canon e.2).symm⟩
theorem play_end {vs : List Lv} {r q : List Int} {w : Int} (h : (playL vs r).w = some w) : (playL vs (r ++ q)).w = some w := by
  have : playL vs (r ++ q) = runL vs (playL vs r) q := by unfold playL runL; rw [List.foldl_append]
  rw [this, runL_some h, h]
theorem sides_app {a b : List Int} (h : Sides (a ++ b)) : Sides a ∧ Sides b := ⟨fun r hr => h r (List.mem_append_left _ hr), fun r hr => h r (List.mem_append_right _ hr)⟩
theorem sides_snoc {a : List Int} {s : Int} (h : Sides a) (hs : s = 0 ∨ s = 1) : Sides (a ++ [s]) := fun r hr => by
  rcases List.mem_append.mp hr with hr | hr
  · exact h r hr
  · rw [List.mem_singleton.mp hr]; exact hs
section
variable (f g : List Lv)
abbrev same (r : List Int) : Prop := (playL f r).w = (playL g r).w
structure liv (r : List Int) : Prop where
  a : (playL f r).w = none
  b : (playL g r).w = none
  s : Sides r
/-- what parting answers -/
def Parted : Option (List Int) → Prop
  | none => ∀ r, Sides r → same f g r
  | some w => Sides w ∧ w ≠ [] ∧ ¬ same f g w ∧ liv f g w.dropLast ∧ ∀ r, Sides r → r.length < w.length → same f g r
/-- not too many pairs -/
def Few : Prop := ∀ (d : Nat) (l : List (List Int)), (∀ r, Sides r → r.length ≤ d → same f g r) → (l.map (kyR f g)).Nodup → (∀ r ∈ l, liv f g r ∧ r.length ≤ d + 1) → l.length < 16777216
end
section
variable {f g : List Lv}
theorem step2 {r q : List Int} {s : Int} (hs : s = 0 ∨ s = 1) (hr : liv f g r) (hq : liv f g q) (e : kyR f g r = kyR f g q) : (same f g (r ++ [s]) ↔ same f g (q ++ [s])) ∧ ((liv f g (r ++ [s]) → liv f g (q ++ [s])) ∧ kyR f g (r ++ [s]) = kyR f g (q ++ [s])) := by
  have e1 : setlM f (playL f r).st = setlM f (playL f q).st := congrArg Prod.fst e
  have e2 : setlM g (playL g r).st = setlM g (playL g q).st := congrArg Prod.snd e
  have a1 := step_ky (vs := f) hs hr.a
  have a2 := step_ky (vs := f) hs hq.a
  have b1 := step_ky (vs := g) hs hr.b
  have b2 := step_ky (vs := g) hs hq.b
  rw [e1] at a1
  rw [e2] at b1
  refine ⟨?_, fun h => ⟨?_, ?_, sides_snoc hq.s hs⟩, ?_⟩
  · unfold same; rw [← a1.1, ← a2.1, ← b1.1, ← b2.1]
  · rw [← a2.1, a1.1]; exact h.a
  · rw [← b2.1, b1.1]; exact h.b
  · unfold kyR; rw [← a1.2, ← a2.2, ← b1.2, ← b2.2]
theorem liv_pre {r : List Int} {s : Int} (h : liv f g (r ++ [s])) : liv f g r := by
  refine ⟨?_, ?_, (sides_app h.s).1⟩
  · cases e : (playL f r).w with
    | none => rfl
    | some w => have := play_end (q := [s]) e; rw [h.a] at this; cases this
  · cases e : (playL g r).w with
    | none => rfl
    | some w => have := play_end (q := [s]) e; rw [h.b] at this; cases this
/-- a row of the sources is closed: its steps do not part, and are there -/
def Clo (f g : List Lv) (R : List (List Int)) (r : List Int) : Prop := ∀ s, s = 0 ∨ s = 1 → same f g (r ++ [s]) ∧ (liv f g (r ++ [s]) → kyR f g (r ++ [s]) ∈ R.map (kyR f g))
structure BI (f g : List Lv) (d : Nat) (R level : List (List Int)) : Prop where
  ok : RowsOk f g R
  rw' : ∀ r ∈ R, liv f g r ∧ r.length ≤ d
  e : ∀ r, Sides r → r.length ≤ d → same f g r ∧ (liv f g r → kyR f g r ∈ R.map (kyR f g))
  lv : ∀ r ∈ level, r ∈ R ∧ r.length = d
  c : ∀ r ∈ R, r ∈ level ∨ Clo f g R r
theorem Clo.more {R R' : List (List Int)} {r : List Int} (h : Clo f g R r) : Clo f g (R ++ R') r := fun s hs => ⟨(h s hs).1, fun hl => by rw [List.map_append]; exact List.mem_append_left _ ((h s hs).2 hl)⟩
/-- one step further -/
theorem ext_step {R R' : List (List Int)} {n : Nat} (hR : ∀ r ∈ R, liv f g r) (hc : ∀ r ∈ R, Clo f g R' r) (e : ∀ r, Sides r → r.length ≤ n → same f g r ∧ (liv f g r → kyR f g r ∈ R.map (kyR f g))) :
    ∀ r, Sides r → r.length ≤ n + 1 → same f g r ∧ (liv f g r → r.length = n + 1 → kyR f g r ∈ R'.map (kyR f g)) := by
  intro r hs hl
  by_cases h : r.length ≤ n
  · exact ⟨(e r hs h).1, fun _ h' => by omega⟩
  · obtain ⟨q, s, rfl⟩ : ∃ q s, r = q ++ [s] := by
      have hne : r ≠ [] := by rintro rfl; simp at h
      exact ⟨r.dropLast, r.getLast hne, (List.dropLast_concat_getLast hne).symm⟩
    rw [List.length_append, List.length_singleton] at hl h
    obtain ⟨hq, hs'⟩ := sides_app hs
    have hs1 : s = 0 ∨ s = 1 := hs' s (by simp)
    obtain ⟨e1, e2⟩ := e q hq (by omega)
    cases ha : (playL f q).w with
    | some w =>
      have hb : (playL g q).w = some w := by rw [← e1, ha]
      have p1 := play_end (q := [s]) ha
      have p2 := play_end (q := [s]) hb
      refine ⟨by unfold same; rw [p1, p2], fun hl => ?_⟩
      have := hl.a
      rw [p1] at this; cases this
    | none =>
      have hb : (playL g q).w = none := by rw [← e1, ha]
      have lq : liv f g q := ⟨ha, hb, hq⟩
      obtain ⟨x, hx, ex⟩ := List.mem_map.mp (e2 lq)
      have st := step2 hs1 lq (hR x hx) ex.symm
      obtain ⟨c1, c2⟩ := hc x hx s hs1
      refine ⟨st.1.mpr c1, fun hl _ => ?_⟩
      rw [st.2.2]
      exact c2 (st.2.1 hl)
theorem BI.none {d : Nat} {R : List (List Int)} (h : BI f g d R []) : Parted f g none := by
  have hc : ∀ r ∈ R, Clo f g R r := fun r hr => (h.c r hr).resolve_left (by simp)
  have key : ∀ n, ∀ r, Sides r → r.length ≤ d + n → same f g r ∧ (liv f g r → kyR f g r ∈ R.map (kyR f g)) := by
    intro n
    induction n with
    | zero => exact h.e
    | succ n ih =>
      intro r hs hl
      have := ext_step (fun r hr => (h.rw' r hr).1) hc ih r hs (by omega)
      refine ⟨this.1, fun hl' => ?_⟩
      by_cases hn : r.length ≤ d + n
      · exact (ih r hs hn).2 hl'
      · exact this.2 hl' (by omega)
  intro r hs
  exact (key r.length r hs (by omega)).1
/-- in the midst of a level: what came later, the steps that were made -/
structure MI (f g : List Lv) (d : Nat) (R : List (List Int)) (pr : List (List Int × Int)) (lat : List (List Int)) : Prop where
  ok : RowsOk f g (R ++ lat)
  nw : ∀ q ∈ lat, liv f g q ∧ q.length = d + 1
  dn : ∀ x ∈ pr, same f g (x.1 ++ [x.2]) ∧ (liv f g (x.1 ++ [x.2]) → kyR f g (x.1 ++ [x.2]) ∈ (R ++ lat).map (kyR f g))
def prs (l : List (List Int)) : List (List Int × Int) := l.flatMap fun r => [(r, 0), (r, 1)]
theorem MI.next {d : Nat} {R level lat : List (List Int)} (h : BI f g d R level) (m : MI f g d R (prs level) lat) : BI f g (d + 1) (R ++ lat) lat := by
  have hc : ∀ r ∈ R, Clo f g (R ++ lat) r := fun r hr => by
    rcases h.c r hr with hl | hl
    · intro s hs
      exact m.dn (r, s) (List.mem_flatMap.mpr ⟨r, hl, by rcases hs with rfl | rfl <;> simp⟩)
    · exact hl.more
  have st := ext_step (fun r hr => (h.rw' r hr).1) hc h.e
  refine ⟨m.ok, fun r hr => ?_, fun r hs hl => ?_, fun r hr => ⟨List.mem_append_right _ hr, (m.nw r hr).2⟩, fun r hr => ?_⟩
  · rcases List.mem_append.mp hr with hr | hr
    · have := h.rw' r hr; exact ⟨this.1, by omega⟩
    · have := m.nw r hr; exact ⟨this.1, by omega⟩
  · have := st r hs hl
    refine ⟨this.1, fun hl' => ?_⟩
    by_cases hn : r.length ≤ d
    · rw [List.map_append]; exact List.mem_append_left _ ((h.e r hs hn).2 hl')
    · exact this.2 hl' (by omega)
  · rcases List.mem_append.mp hr with hr | hr
    · exact .inr (hc r hr)
    · exact .inl hr
/-- a step is found that parts -/
def Hit (f g : List Lv) (d : Nat) (w : List Int) : Prop := ∃ r s, w = r ++ [s] ∧ liv f g r ∧ r.length = d ∧ (s = 0 ∨ s = 1) ∧ ¬ same f g w
theorem Hit.parted {d : Nat} {R level : List (List Int)} {w : List Int} (h : BI f g d R level) (hw : Hit f g d w) : Parted f g (some w) := by
  obtain ⟨r, s, rfl, hl, hd, hs, hn⟩ := hw
  refine ⟨sides_snoc hl.s hs, by simp, hn, by rw [List.dropLast_concat]; exact hl, fun q hq hlt => ?_⟩
  rw [List.length_append, List.length_singleton] at hlt
  exact (h.e q hq (by omega)).1
theorem MI.add {d : Nat} {R lat : List (List Int)} {pr : List (List Int × Int)} {r : List Int} {s : Int} (m : MI f g d R pr lat) (hr : r ∈ R) (hd : r.length = d) (hl : liv f g (r ++ [s])) (hk : kyR f g (r ++ [s]) ∉ (R ++ lat).map (kyR f g)) :
    MI f g d R (pr ++ [(r, s)]) (lat ++ [r ++ [s]]) := by
  refine ⟨⟨?_, fun q t hq => ?_⟩, fun q hq => ?_, fun x hx => ?_⟩
  · rw [← List.append_assoc, List.map_append, List.nodup_append]
    refine ⟨m.ok.nd, by simp, fun a ha b hb => ?_⟩
    simp only [List.map_cons, List.map_nil, List.mem_singleton] at hb
    subst hb
    rintro rfl
    exact hk ha
  · rw [← List.append_assoc] at hq ⊢
    rcases List.mem_append.mp hq with hq | hq
    · exact List.mem_append_left _ (m.ok.cl q t hq)
    · have e := List.mem_singleton.mp hq
      have := (List.append_inj' e rfl).1
      subst this
      exact List.mem_append_left _ (List.mem_append_left _ hr)
  · rcases List.mem_append.mp hq with hq | hq
    · exact m.nw q hq
    · rw [List.mem_singleton.mp hq]; exact ⟨hl, by simp [hd]⟩
  · have mono : ∀ k, k ∈ (R ++ lat).map (kyR f g) → k ∈ (R ++ (lat ++ [r ++ [s]])).map (kyR f g) := fun k hk => by
      rw [← List.append_assoc, List.map_append]; exact List.mem_append_left _ hk
    rcases List.mem_append.mp hx with hx | hx
    · exact ⟨(m.dn x hx).1, fun hl => mono _ ((m.dn x hx).2 hl)⟩
    · rw [List.mem_singleton.mp hx]
      refine ⟨by unfold same; rw [hl.a, hl.b], fun _ => ?_⟩
      exact List.mem_map.mpr ⟨r ++ [s], by simp, rfl⟩
theorem MI.skip {d : Nat} {R lat : List (List Int)} {pr : List (List Int × Int)} {r : List Int} {s : Int} (m : MI f g d R pr lat) (h1 : same f g (r ++ [s])) (h2 : liv f g (r ++ [s]) → kyR f g (r ++ [s]) ∈ (R ++ lat).map (kyR f g)) :
    MI f g d R (pr ++ [(r, s)]) lat := by
  refine ⟨m.ok, m.nw, fun x hx => ?_⟩
  rcases List.mem_append.mp hx with hx | hx
  · exact m.dn x hx
  · rw [List.mem_singleton.mp hx]; exact ⟨h1, h2⟩
end

end Sf
end

section
set_option Elab.async false
set_option maxRecDepth 100000
set_option linter.all false
set_option maxHeartbeats 4000000
namespace Sf
open PySem L2
/-! parting: the run -/
abbrev kk (f g : List Lv) (r : List Int) : D := kyD (kyR f g r)
def ptB : FS := (sSeq (sPar2 8 9 (fCons (fCall (pureF f_after) (fCons (fVar 0) (fCons (fOp2 oIx (fVar 6) (fCon (.int 0))) (fCons (fVar 7) (fNil))))) (fCons (fCall (pureF f_after) (fCons (fVar 1) (fCons (fOp2 oIx (fVar 6) (fCon (.int 1))) (fCons (fVar 7) (fNil))))) (fNil))))
    (sSeq (sIf (tVal (fOp2 oNe (fOp2 oIx (fVar 8) (fCon (.int 1))) (fOp2 oIx (fVar 9) (fCon (.int 1))))) (sRet (fOp2 (oAdd false) (fCall f_row_to (fCons (fVar 3) (fCons (fVar 6) (fNil)))) (fLst false (fCons (fVar 7) (fNil))))) (sSkip))
    (sSeq (sAsg 10 (fTup (fCons (fCall (pureF f_settled) (fCons (fVar 0) (fCons (fOp2 oIx (fVar 8) (fCon (.int 0))) (fNil)))) (fCons (fCall (pureF f_settled) (fCons (fVar 1) (fCons (fOp2 oIx (fVar 9) (fCon (.int 0))) (fNil)))) (fNil)))))
    (sIf (Sf.tAnd (tVal (fOp2 oIs (fOp2 oIx (fVar 8) (fCon (.int 1))) (fCon .non))) (tVal (fOp2 oNinX (fVar 10) (fVar 3)))) (sSeq (sAsgX (fTup (fCons (fVar 6) (fCons (fVar 7) (fNil)))) (fVar 3) (fVar 10))
    (sExpr (fMethL mAppend (fVar 5) (fCons (fVar 10) (fNil))))) (sSkip)))))
def ptL : FS := (sFor (iSq (fTup (fCons (fCon (.int 0)) (fCons (fCon (.int 1)) (fNil))))) (tgName 7) ptB)
def ptW : FS := (sSeq (sAsg 5 (fLst true (fNil)))
    (sSeq (sForD (fVar 4) (tgName 6) ptL)
    (sAsg 4 (fVar 5))))
def ptC : FT := (tVal (fOp2 oNe (fVar 4) (fLst false (fNil))))
theorem neOI {a b : Option Int} {S : Sto} : oNe (oI a) (oI b) S = some (.bl (!decide (a = b)), S) := by
  cases a <;> cases b <;> simp
theorem add_rowF {l m : List Int} {S : Sto} (h : l.length + m.length ≤ 16777216) : oAdd false (rowD l) (rowD m) S = some (rowD (l ++ m), S) := by
  show mkL false (l.map D.int ++ m.map D.int) S = _
  rw [x_mkF, fit_of (by simp; omega), ← List.map_append]; rfl
theorem low_ky (k : Ky) : lowD 0 (kyD k) = true := by
  show (lowL 0 (k.1.map prD) && (lowL 0 (k.2.map prD) && true)) = true
  rw [low_prs, low_prs]; rfl
theorem low_val {f g : List Lv} {r : List Int} : lowD 0 (valR f g r) = true := by
  unfold valR
  cases r.getLast? with
  | none => rfl
  | some s =>
    show (lowD 0 (kyD (kyR f g r.dropLast)) && true) = true
    rw [low_ky]; rfl
theorem low_src {f g : List Lv} {R : List (List Int)} : lowO 0 (.dct false (srcE f g R)) = true := by
  show ((srcE f g R).all fun p => lowD 0 p.1 && lowD 0 p.2) = true
  rw [List.all_eq_true]
  intro p hp
  obtain ⟨x, hx, rfl⟩ := List.mem_map.mp hp
  show (lowD 0 (kyD (kyR f g x)) && lowD 0 (valR f g x)) = true
  rw [low_ky, low_val]; rfl
theorem low_kys {f g : List Lv} {l : List (List Int)} : lowO 0 (.lst (l.map (kk f g))) = true := lowL_map (kk f g) (fun x => low_ky _) l
theorem srcE_snoc {f g : List Lv} {R lat : List (List Int)} {r : List Int} {s : Int} : srcE f g (R ++ lat) ++ [(kyD (kyR f g (r ++ [s])), .tup [kk f g r, .int s])] = srcE f g (R ++ (lat ++ [r ++ [s]])) := by
  unfold srcE
  rw [← List.append_assoc, List.map_append, List.map_append (l₁ := R ++ lat)]
  simp [valR_snoc]
structure PIn (f g : List Lv) (m : Nat) (R lat : List (List Int)) (S0 S : Sto) : Prop where
  s0 : S[0]? = some (.dct false (srcE f g (R ++ lat)))
  sm : S[m]? = some (.lst (lat.map (kk f g)))
  o : ∀ n, n ≠ 0 → n ≠ m → S[n]? = S0[n]?
  len : S.length = S0.length
  low : ∀ o ∈ S, lowO 0 o = true
section
variable {f g : List Lv} {m d : Nat} {x2 x4 : D} {R lat : List (List Int)} {S0 S : Sto} {pr : List (List Int × Int)}
theorem t_ptB {r : List Int} {s : Int} {x8 x9 x10 : D} (hf : Form f) (hg : Form g) (hm : m ≠ 0) (hr : r ∈ R) (hl : liv f g r) (hd : r.length = d) (hdl : d < 16777215) (hs : s = 0 ∨ s = 1) (M : MI f g d R pr lat) (hb : (R ++ lat).length < 16777216) (h : PIn f g m R lat S0 S) :
    (¬ same f g (r ++ [s]) ∧ ∃ S', ptB [formD f, formD g, x2, .loc 0, x4, .loc m, kk f g r, .int s, x8, x9, x10] S = .rt (rowD (r ++ [s])) S') ∨
    (∃ y8 y9 y10 S' lat', ptB [formD f, formD g, x2, .loc 0, x4, .loc m, kk f g r, .int s, x8, x9, x10] S = .nx [formD f, formD g, x2, .loc 0, x4, .loc m, kk f g r, .int s, y8, y9, y10] S' ∧ PIn f g m R lat' S0 S' ∧ MI f g d R (pr ++ [(r, s)]) lat') := by
  obtain ⟨s0, sm, o, len, low⟩ := h
  have vf : f.length ≤ 1000 := by have := hf.2.1; omega
  have vg : g.length ≤ 1000 := by have := hg.2.1; omega
  have ok1 := okS_play hf.2.2 hl.s hl.a
  have ok2 := okS_play hg.2.2 hl.s hl.b
  have A := step_ky (vs := f) hs hl.a
  have B := step_ky (vs := g) hs hl.b
  have ea1 := fun S => t_after (S := S) (s := s) vf ok1.len
  have ea2 := fun S => t_after (S := S) (s := s) vg ok2.len
  rw [(live.step ok1.lv hf.2.2 hs).1, A.1] at ea1
  rw [(live.step ok2.lv hg.2.2 hs).1, B.1] at ea2
  have es1 := fun S => t_settled (vs := f) (ps := (afterL f (setlM f (playL f r).st) s).1) (S := S) (by have := hf.2.1; omega) (by rw [afterL_len]; exact ok1.len)
  have es2 := fun S => t_settled (vs := g) (ps := (afterL g (setlM g (playL g r).st) s).1) (S := S) (by have := hg.2.1; omega) (by rw [afterL_len]; exact ok2.len)
  rw [A.2] at es1
  rw [B.2] at es2
  generalize hw1 : (playL f (r ++ [s])).w = w1 at ea1
  generalize hw2 : (playL g (r ++ [s])).w = w2 at ea2
  generalize (afterL f (setlM f (playL f r).st) s).1 = A1 at ea1 es1
  generalize (afterL g (setlM g (playL g r).st) s).1 = A2 at ea2 es2
  have s1 : sPar2 8 9 (fCons (fCall (pureF f_after) (fCons (fVar 0) (fCons (fOp2 oIx (fVar 6) (fCon (.int 0))) (fCons (fVar 7) (fNil))))) (fCons (fCall (pureF f_after) (fCons (fVar 1) (fCons (fOp2 oIx (fVar 6) (fCon (.int 1))) (fCons (fVar 7) (fNil))))) (fNil))) [formD f, formD g, x2, .loc 0, x4, .loc m, kk f g r, .int s, x8, x9, x10] S
      = .nx [formD f, formD g, x2, .loc 0, x4, .loc m, kk f g r, .int s, .tup [stD A1, oI w1], .tup [stD A2, oI w2], x10] S := by
    rw [x_par2, consF (callF (consF rfl (consF (op2F rfl rfl rfl) (consF rfl x_nil))) (ea1 _)) (consF (callF (consF rfl (consF (op2F rfl rfl rfl) (consF rfl x_nil))) (ea2 _)) x_nil)]; rfl
  have t2 : tVal (fOp2 oNe (fOp2 oIx (fVar 8) (fCon (.int 1))) (fOp2 oIx (fVar 9) (fCon (.int 1)))) [formD f, formD g, x2, .loc 0, x4, .loc m, kk f g r, .int s, .tup [stD A1, oI w1], .tup [stD A2, oI w2], x10] S = .ok (!decide (w1 = w2)) S :=
    valF (op2F (op2F rfl rfl rfl) (op2F rfl rfl rfl) neOI)
  unfold ptB
  rw [sSeq_nx s1]
  by_cases hw : w1 = w2
  · right
    rw [decide_eq_true hw] at t2
    have hsame : same f g (r ++ [s]) := by unfold same; rw [hw1, hw2, hw]
    rw [sSeq_nx (e' := [formD f, formD g, x2, .loc 0, x4, .loc m, kk f g r, .int s, .tup [stD A1, oI w1], .tup [stD A2, oI w2], x10]) (S' := S) (by rw [sIf_no t2]; rfl)]
    rw [sSeq_nx (e' := [formD f, formD g, x2, .loc 0, x4, .loc m, kk f g r, .int s, .tup [stD A1, oI w1], .tup [stD A2, oI w2], kk f g (r ++ [s])]) (S' := S) (by
      refine asgF ?_
      rw [x_tup, consF (callF (consF rfl (consF (op2F rfl rfl rfl) x_nil)) (es1 _)) (consF (callF (consF rfl (consF (op2F rfl rfl rfl) x_nil)) (es2 _)) x_nil)]; rfl)]
    have t3 : tVal (fOp2 oIs (fOp2 oIx (fVar 8) (fCon (.int 1))) (fCon .non)) [formD f, formD g, x2, .loc 0, x4, .loc m, kk f g r, .int s, .tup [stD A1, oI w1], .tup [stD A2, oI w2], kk f g (r ++ [s])] S = .ok (isNon (oI w1)) S :=
      valF (op2F (op2F rfl rfl rfl) rfl rfl)
    have t4 : tVal (fOp2 oNinX (fVar 10) (fVar 3)) [formD f, formD g, x2, .loc 0, x4, .loc m, kk f g r, .int s, .tup [stD A1, oI w1], .tup [stD A2, oI w2], kk f g (r ++ [s])] S = .ok (!decide (kyR f g (r ++ [s]) ∈ (R ++ lat).map (kyR f g))) S :=
      valF (op2F rfl rfl (nin_ky M.ok.nd s0))
    cases w1 with
    | some w =>
      refine ⟨.tup [stD A1, oI (some w)], .tup [stD A2, oI w2], kk f g (r ++ [s]), S, lat, ?_, ⟨s0, sm, o, len, low⟩, M.skip hsame fun hl' => ?_⟩
      · rw [sIf_no (andFF t3)]; rfl
      · have := hl'.a; rw [hw1] at this; cases this
    | none =>
      subst hw
      have hl' : liv f g (r ++ [s]) := ⟨hw1, hw2, sides_snoc hl.s hs⟩
      by_cases hk : kyR f g (r ++ [s]) ∈ (R ++ lat).map (kyR f g)
      · rw [decide_eq_true hk] at t4
        refine ⟨.tup [stD A1, oI none], .tup [stD A2, oI none], kk f g (r ++ [s]), S, lat, ?_, ⟨s0, sm, o, len, low⟩, M.skip hsame fun _ => hk⟩
        rw [sIf_no (andTT t3 t4)]; rfl
      · rw [decide_eq_false hk] at t4
        have l0 : 0 < S.length := (List.getElem?_eq_some_iff.mp s0).1
        have lm : m < S.length := (List.getElem?_eq_some_iff.mp sm).1
        have e1 := set_ky (v := .tup [kk f g r, .int s]) s0 hk hb
        rw [srcE_snoc] at e1
        have q0 : (S.set 0 (.dct false (srcE f g (R ++ (lat ++ [r ++ [s]])))))[0]? = some (.dct false (srcE f g (R ++ (lat ++ [r ++ [s]])))) := List.getElem?_set_self l0
        have qm : (S.set 0 (.dct false (srcE f g (R ++ (lat ++ [r ++ [s]])))))[m]? = some (.lst (lat.map (kk f g))) := by rw [List.getElem?_set_ne (Ne.symm hm)]; exact sm
        have ql : (S.set 0 (.dct false (srcE f g (R ++ (lat ++ [r ++ [s]]))))).length = S.length := by simp
        have qo : ∀ n, n ≠ 0 → n ≠ m → (S.set 0 (.dct false (srcE f g (R ++ (lat ++ [r ++ [s]])))))[n]? = S0[n]? := fun n a b => by rw [List.getElem?_set_ne (Ne.symm a)]; exact o n a b
        have qw : ∀ o ∈ (S.set 0 (.dct false (srcE f g (R ++ (lat ++ [r ++ [s]]))))), lowO 0 o = true := fun o ho => by
          rcases List.mem_or_eq_of_mem_set ho with h | h
          · exact low o h
          · rw [h]; exact low_src
        generalize S.set 0 (.dct false (srcE f g (R ++ (lat ++ [r ++ [s]])))) = S1 at e1 q0 qm ql qo qw
        have fl : fitS (lat.map (kk f g)).length = true := fitS_of (by rw [List.length_map]; rw [List.length_append] at hb; omega)
        have il : isLs (.loc m) S1 = true := isLs_of qm
        have ap : mAppend (.loc m) [kk f g (r ++ [s])] S1 = some (.non, S1.set m (.lst ((lat ++ [r ++ [s]]).map (kk f g)))) := by
          rw [x_append, qm]; simp only; rw [fl]; simp
        refine ⟨.tup [stD A1, oI none], .tup [stD A2, oI none], kk f g (r ++ [s]), S1.set m (.lst ((lat ++ [r ++ [s]]).map (kk f g))), lat ++ [r ++ [s]], ?_, ⟨?_, ?_, ?_, ?_, ?_⟩, M.add hr hd hl' hk⟩
        · rw [sIf_yes (andTT t3 t4), sSeq_nx (e' := [formD f, formD g, x2, .loc 0, x4, .loc m, kk f g r, .int s, .tup [stD A1, oI none], .tup [stD A2, oI none], kk f g (r ++ [s])]) (S' := S1) (by
            show ((fTup (fCons (fVar 6) (fCons (fVar 7) (fNil))) [formD f, formD g, x2, .loc 0, x4, .loc m, kk f g r, .int s, .tup [stD A1, oI none], .tup [stD A2, oI none], kk f g (r ++ [s])] S).bindS fun x S1 => (Out.ok (D.loc 0) S1).bindS fun o S2 => (Out.ok (kk f g (r ++ [s])) S2).bindS fun i S3 => match setX o i x S3 with
              | some S4 => .nx _ S4
              | none => .bad) = _
            have e2 : fTup (fCons (fVar 6) (fCons (fVar 7) (fNil))) [formD f, formD g, x2, .loc 0, x4, .loc m, kk f g r, .int s, .tup [stD A1, oI none], .tup [stD A2, oI none], kk f g (r ++ [s])] S = .ok (.tup [kk f g r, .int s]) S := rfl
            rw [e2, x_bindS, x_bindS, x_bindS, e1])]
          rw [x_expr]
          have e3 : fMethL mAppend (fVar 5) (fCons (fVar 10) (fNil)) [formD f, formD g, x2, .loc 0, x4, .loc m, kk f g r, .int s, .tup [stD A1, oI none], .tup [stD A2, oI none], kk f g (r ++ [s])] S1 = .ok .non (S1.set m (.lst ((lat ++ [r ++ [s]]).map (kk f g)))) := by
            unfold fMethL
            show (bif isLs (.loc m) S1 then outO (mAppend (.loc m) [kk f g (r ++ [s])] S1) else .bad) = _
            rw [il, ap]; rfl
          rw [e3]; rfl
        · rw [List.getElem?_set_ne hm]; exact q0
        · rw [List.getElem?_set_self (by omega)]
        · intro n a b; rw [List.getElem?_set_ne (Ne.symm b)]; exact qo n a b
        · simp [ql, len]
        · intro o ho
          rcases List.mem_or_eq_of_mem_set ho with h | h
          · exact qw o h
          · rw [h]; exact low_kys
  · left
    rw [decide_eq_false hw] at t2
    refine ⟨fun h => hw (by rw [← hw1, ← hw2]; exact h), S, ?_⟩
    have er := t_row_to (S := S) M.ok s0 low (List.mem_append_left _ hr) (by omega)
    rw [x_seq, sIf_yes t2, x_ret, op2F (callF (consF rfl (consF rfl x_nil)) er) (y := rowD [s]) (S2 := S) (by rfl) (add_rowF (by simp; omega))]
    rfl
theorem t_ptL {r : List Int} {x7 x8 x9 x10 : D} (hf : Form f) (hg : Form g) (hm : m ≠ 0) (hr : r ∈ R) (hl : liv f g r) (hd : r.length = d) (hdl : d < 16777215) (hB : ∀ pr lat, MI f g d R pr lat → (R ++ lat).length < 16777216) (M : MI f g d R pr lat) (h : PIn f g m R lat S0 S) :
    (∃ w S', ptL [formD f, formD g, x2, .loc 0, x4, .loc m, kk f g r, x7, x8, x9, x10] S = .rt (rowD w) S' ∧ Hit f g d w) ∨
    (∃ y7 y8 y9 y10 S' lat', ptL [formD f, formD g, x2, .loc 0, x4, .loc m, kk f g r, x7, x8, x9, x10] S = .nx [formD f, formD g, x2, .loc 0, x4, .loc m, kk f g r, y7, y8, y9, y10] S' ∧ PIn f g m R lat' S0 S' ∧ MI f g d R (pr ++ [(r, 0), (r, 1)]) lat') := by
  have it : ptL [formD f, formD g, x2, .loc 0, x4, .loc m, kk f g r, x7, x8, x9, x10] S = forL (tgName 7) ptB [.int 0, .int 1] [formD f, formD g, x2, .loc 0, x4, .loc m, kk f g r, x7, x8, x9, x10] S := rfl
  rw [it, forL_cons (env1 := [formD f, formD g, x2, .loc 0, x4, .loc m, kk f g r, .int 0, x8, x9, x10]) rfl]
  rcases t_ptB (x2 := x2) (x4 := x4) (x8 := x8) (x9 := x9) (x10 := x10) hf hg hm hr hl hd hdl (.inl rfl) M (hB _ _ M) h with ⟨n, S', e⟩ | ⟨y8, y9, y10, S1, lat1, e, h1, M1⟩
  · exact .inl ⟨_, S', by rw [e]; rfl, r, 0, rfl, hl, hd, .inl rfl, n⟩
  · rw [e]
    show (∃ w S', forL (tgName 7) ptB [.int 1] _ S1 = .rt (rowD w) S' ∧ Hit f g d w) ∨ (∃ y7 y8 y9 y10 S' lat', forL (tgName 7) ptB [.int 1] _ S1 = _ ∧ _)
    rw [forL_cons (env1 := [formD f, formD g, x2, .loc 0, x4, .loc m, kk f g r, .int 1, y8, y9, y10]) rfl]
    rcases t_ptB (x2 := x2) (x4 := x4) (x8 := y8) (x9 := y9) (x10 := y10) hf hg hm hr hl hd hdl (.inr rfl) M1 (hB _ _ M1) h1 with ⟨n, S', e2⟩ | ⟨z8, z9, z10, S2, lat2, e2, h2, M2⟩
    · exact .inl ⟨_, S', by rw [e2]; rfl, r, 1, rfl, hl, hd, .inr rfl, n⟩
    · refine .inr ⟨.int 1, z8, z9, z10, S2, lat2, by rw [e2]; rfl, h2, ?_⟩
      rw [List.append_assoc] at M2
      exact M2
theorem t_ptF (hf : Form f) (hg : Form g) (hm : m ≠ 0) (hdl : d < 16777215) (hB : ∀ pr lat, MI f g d R pr lat → (R ++ lat).length < 16777216) : ∀ (l : List (List Int)) (pr : List (List Int × Int)) (lat : List (List Int)) (x6 x7 x8 x9 x10 : D) (S : Sto), (∀ r ∈ l, r ∈ R ∧ liv f g r ∧ r.length = d) → MI f g d R pr lat → PIn f g m R lat S0 S →
    (∃ w S', forL (tgName 6) ptL (l.map (kk f g)) [formD f, formD g, x2, .loc 0, x4, .loc m, x6, x7, x8, x9, x10] S = .rt (rowD w) S' ∧ Hit f g d w) ∨
    (∃ y6 y7 y8 y9 y10 S' lat', forL (tgName 6) ptL (l.map (kk f g)) [formD f, formD g, x2, .loc 0, x4, .loc m, x6, x7, x8, x9, x10] S = .nx [formD f, formD g, x2, .loc 0, x4, .loc m, y6, y7, y8, y9, y10] S' ∧ PIn f g m R lat' S0 S' ∧ MI f g d R (pr ++ prs l) lat')
  | [], pr, lat, x6, x7, x8, x9, x10, S, _, M, h => .inr ⟨x6, x7, x8, x9, x10, S, lat, rfl, h, by unfold prs; simpa using M⟩
  | r :: l, pr, lat, x6, x7, x8, x9, x10, S, hl, M, h => by
    obtain ⟨h1, h2, h3⟩ := hl r (by simp)
    rw [List.map_cons, forL_cons (env1 := [formD f, formD g, x2, .loc 0, x4, .loc m, kk f g r, x7, x8, x9, x10]) rfl]
    rcases t_ptL (x2 := x2) (x4 := x4) (x7 := x7) (x8 := x8) (x9 := x9) (x10 := x10) hf hg hm h1 h2 h3 hdl hB M h with ⟨w, S', e, n⟩ | ⟨y7, y8, y9, y10, S1, lat1, e, p1, M1⟩
    · exact .inl ⟨w, S', by rw [e]; rfl, n⟩
    · rw [e]
      rcases t_ptF hf hg hm hdl hB l (pr ++ [(r, 0), (r, 1)]) lat1 (kk f g r) y7 y8 y9 y10 S1 (fun q hq => hl q (by simp [hq])) M1 p1 with ⟨w, S', e, n⟩ | ⟨z6, z7, z8, z9, z10, S2, lat2, e, p2, M2⟩
      · exact .inl ⟨w, S', e, n⟩
      · refine .inr ⟨z6, z7, z8, z9, z10, S2, lat2, e, p2, ?_⟩
        rw [List.append_assoc] at M2
        exact M2
theorem forV_rt {g : D → En → Option En} {b : FS} {n k i : Nat} {env env1 : En} {S S' : Sto} {l : List D} {d e : D} (h : S[n]? = some (.lst l)) (hd : l[i]? = some d) (h1 : g d env = some env1) (h2 : b env1 S = .rt e S') :
    forV g b n (k + 1) i env S = .rt e S' := by
  show (match S[n]? with
    | some (.lst l) => match l[i]? with
      | some d => match g d env with
        | none => SR.bad
        | some env1 => match b env1 S with
          | .nx env' S' => forV g b n k (i + 1) env' S'
          | .ct env' S' => forV g b n k (i + 1) env' S'
          | .bk env' S' => .nx env' S'
          | r => r
      | none => .nx env S
    | _ => .bad) = _
  rw [h]; simp only; rw [hd]; simp only; rw [h1]; simp only; rw [h2]
theorem t_ptV {n : Nat} {L : List (List Int)} (hf : Form f) (hg : Form g) (hm : m ≠ 0) (hn0 : n ≠ 0) (hnm : n ≠ m) (hL : S0[n]? = some (.lst (L.map (kk f g)))) (hdl : d < 16777215) (hB : ∀ pr lat, MI f g d R pr lat → (R ++ lat).length < 16777216) (hl : ∀ r ∈ L, r ∈ R ∧ liv f g r ∧ r.length = d) : ∀ (l done : List (List Int)) (pr : List (List Int × Int)) (lat : List (List Int)) (x6 x7 x8 x9 x10 : D) (S : Sto), L = done ++ l → MI f g d R pr lat → PIn f g m R lat S0 S →
    (∃ w S', forV (tgName 6) ptL n (l.length + 1) done.length [formD f, formD g, x2, .loc 0, x4, .loc m, x6, x7, x8, x9, x10] S = .rt (rowD w) S' ∧ Hit f g d w) ∨
    (∃ y6 y7 y8 y9 y10 S' lat', forV (tgName 6) ptL n (l.length + 1) done.length [formD f, formD g, x2, .loc 0, x4, .loc m, x6, x7, x8, x9, x10] S = .nx [formD f, formD g, x2, .loc 0, x4, .loc m, y6, y7, y8, y9, y10] S' ∧ PIn f g m R lat' S0 S' ∧ MI f g d R (pr ++ prs l) lat')
  | [], done, pr, lat, x6, x7, x8, x9, x10, S, hd, M, h => by
    have hS : S[n]? = some (.lst (L.map (kk f g))) := by rw [h.o n hn0 hnm]; exact hL
    refine .inr ⟨x6, x7, x8, x9, x10, S, lat, forV_end hS ?_, h, by unfold prs; simpa using M⟩
    rw [hd]; simp
  | r :: l, done, pr, lat, x6, x7, x8, x9, x10, S, hd, M, h => by
    have hS : S[n]? = some (.lst (L.map (kk f g))) := by rw [h.o n hn0 hnm]; exact hL
    have hi : (L.map (kk f g))[done.length]? = some (kk f g r) := by rw [hd]; simp
    obtain ⟨h1, h2, h3⟩ := hl r (by rw [hd]; simp)
    rcases t_ptL (x2 := x2) (x4 := x4) (x7 := x7) (x8 := x8) (x9 := x9) (x10 := x10) hf hg hm h1 h2 h3 hdl hB M h with ⟨w, S', e, nn⟩ | ⟨y7, y8, y9, y10, S1, lat1, e, p1, M1⟩
    · exact .inl ⟨w, S', forV_rt (env1 := [formD f, formD g, x2, .loc 0, x4, .loc m, kk f g r, x7, x8, x9, x10]) hS hi rfl e, nn⟩
    · have ih := t_ptV hf hg hm hn0 hnm hL hdl hB hl l (done ++ [r]) (pr ++ [(r, 0), (r, 1)]) lat1 (kk f g r) y7 y8 y9 y10 S1 (by rw [hd]; simp) M1 p1
      rw [List.length_append, List.length_singleton] at ih
      rw [List.length_cons, forV_go (env1 := [formD f, formD g, x2, .loc 0, x4, .loc m, kk f g r, x7, x8, x9, x10]) hS hi rfl e]
      rcases ih with ⟨w, S', e, nn⟩ | ⟨z6, z7, z8, z9, z10, S2, lat2, e, p2, M2⟩
      · exact .inl ⟨w, S', e, nn⟩
      · refine .inr ⟨z6, z7, z8, z9, z10, S2, lat2, e, p2, ?_⟩
        rw [List.append_assoc] at M2
        exact M2
end

end Sf
end

section
set_option Elab.async false
set_option maxRecDepth 100000
set_option linter.all false
set_option maxHeartbeats 4000000
namespace Sf
open PySem L2
/-! parting: the whole -/
theorem var_atP {env : En} {i : Nat} {d : D} {S : Sto} (h : env[i]? = some d) (hn : d ≠ .und) : fVar i env S = .ok d S := by
  unfold fVar; rw [h]; cases d <;> first | rfl | exact absurd rfl hn
theorem while_rt {c : FT} {b : FS} {m : Nat} {env : En} {S S' S2 : Sto} {d : D} (h : c env S = .ok true S2) (h2 : b env S2 = .rt d S') : whileL c b (m + 1) env S = .rt d S' := by
  show ((c env S).bindS fun x S1 => bif x then (match b env S1 with
    | .nx env' S' => whileL c b m env' S'
    | .ct env' S' => whileL c b m env' S'
    | .bk env' S' => .nx env' S'
    | r => r) else .nx env S1) = _
  rw [h, x_bindS, cond_true, h2]
theorem take_in {f g : List Lv} {R : List (List Int)} (ho : RowsOk f g R) : ∀ (r : List Int), r ∈ R → ∀ i, i ≤ r.length → r.take i ∈ R := by
  intro r
  induction r using snoc_ind with
  | h0 => intro hr i _; simpa using hr
  | h1 q s ih =>
    intro hr i hi
    rw [List.length_append, List.length_singleton] at hi
    by_cases h : i ≤ q.length
    · rw [List.take_append_of_le_length h]
      exact ih (ho.cl q s hr) i h
    · rw [List.take_of_length_le (by simp; omega)]; exact hr
theorem len_in {f g : List Lv} {R : List (List Int)} (ho : RowsOk f g R) {r : List Int} (hr : r ∈ R) : r.length < R.length := by
  have hn : ((List.range (r.length + 1)).map fun i => r.take i).Nodup := by
    show List.Pairwise _ _
    rw [List.pairwise_map]
    refine (List.pairwise_lt_range (n := r.length + 1)).imp_of_mem fun {a b} ha hb hlt e => ?_
    rw [List.mem_range] at ha hb
    have := congrArg List.length e
    rw [List.length_take, List.length_take] at this
    omega
  have := nodup_le hn fun x hx => by
    obtain ⟨i, hi, rfl⟩ := List.mem_map.mp hx
    rw [List.mem_range] at hi
    exact take_in ho r hr i (by omega)
  rw [List.length_map, List.length_range] at this
  omega
theorem pl_kk {f g : List Lv} {l : List (List Int)} : plL 3 (l.map (kk f g)) = true := plL_map (kk f g) (fun x => by
  show plL 2 [stD _, stD _] = true
  rw [plL_cons, plL_cons, plL_nil]
  show (plL 1 _ && (plL 1 _ && true)) = true
  rw [pl_st, pl_st]; rfl) l
section
variable {f g : List Lv} {x2 : D}
theorem t_ptWhile (hf : Form f) (hg : Form g) (few : Few f g) : ∀ (fuel d : Nat) (R level : List (List Int)) (x4 x5 x6 x7 x8 x9 x10 : D) (S : Sto), BI f g d R level → S[0]? = some (.dct false (srcE f g R)) →
    (x4 = .lst (level.map (kk f g)) ∨ ∃ n, x4 = .loc n ∧ n ≠ 0 ∧ S[n]? = some (.lst (level.map (kk f g)))) → (∀ o ∈ S, lowO 0 o = true) → (level = [] → 1 ≤ fuel) → (level ≠ [] → 16777218 ≤ fuel + R.length) →
    (Parted f g none ∧ ∃ env' S', whileL ptC ptW fuel [formD f, formD g, x2, .loc 0, x4, x5, x6, x7, x8, x9, x10] S = .nx env' S') ∨
    (∃ w S', Parted f g (some w) ∧ w.length < 16777216 ∧ whileL ptC ptW fuel [formD f, formD g, x2, .loc 0, x4, x5, x6, x7, x8, x9, x10] S = .rt (rowD w) S') := by
  intro fuel
  induction fuel with
  | zero =>
    intro d R level x4 x5 x6 x7 x8 x9 x10 S h _ _ _ h1 h2
    by_cases hl : level = []
    · have := h1 hl; omega
    · have := h2 hl
      have := few d R (fun r hs hl => (h.e r hs hl).1) h.ok.nd (fun r hr => ⟨(h.rw' r hr).1, by have := (h.rw' r hr).2; omega⟩)
      omega
  | succ fuel ih =>
    intro d R level x4 x5 x6 x7 x8 x9 x10 S h h0 h4 hlow h1 h2
    have hu : x4 ≠ .und := by rcases h4 with rfl | ⟨n, rfl, _⟩ <;> intro h <;> cases h
    have hc : ptC [formD f, formD g, x2, .loc 0, x4, x5, x6, x7, x8, x9, x10] S = .ok (!level.isEmpty) S := by
      unfold ptC
      refine valF (op2F (var_atP (i := 4) rfl hu) (y := .lst []) (S2 := S) rfl ?_)
      have := neNil (d := x4) (n := 3) (l := level.map (kk f g)) (S := S) (h4.imp id fun ⟨n, a, _, b⟩ => ⟨n, a, b⟩) pl_kk (by omega)
      rw [this]; simp
    by_cases hl : level = []
    · subst hl
      refine .inl ⟨h.none, _, _, while_end (by exact hc)⟩
    · have hR := few d R (fun r hs hl => (h.e r hs hl).1) h.ok.nd (fun r hr => ⟨(h.rw' r hr).1, by have := (h.rw' r hr).2; omega⟩)
      obtain ⟨r0, hr0⟩ : ∃ r, r ∈ level := List.exists_mem_of_ne_nil _ hl
      have hd : d < R.length := by
        have := len_in h.ok (h.lv r0 hr0).1
        rw [(h.lv r0 hr0).2] at this; exact this
      have hct : ptC [formD f, formD g, x2, .loc 0, x4, x5, x6, x7, x8, x9, x10] S = .ok true S := by
        rw [hc]
        cases level with
        | nil => exact absurd rfl hl
        | cons => rfl
      have l0 : 0 < S.length := (List.getElem?_eq_some_iff.mp h0).1
      have hB : ∀ pr lat, MI f g d R pr lat → (R ++ lat).length < 16777216 := fun pr lat M => few d (R ++ lat) (fun r hs hl => (h.e r hs hl).1) M.ok.nd (fun r hr => by
        rcases List.mem_append.mp hr with hr | hr
        · have := h.rw' r hr; exact ⟨this.1, by omega⟩
        · have := M.nw r hr; exact ⟨this.1, by omega⟩)
      have M0 : MI f g d R [] [] := ⟨by rw [List.append_nil]; exact h.ok, by simp, by simp⟩
      have P0 : PIn f g S.length R [] (S ++ [.lst []]) (S ++ [.lst []]) := by
        refine ⟨by rw [List.append_nil, List.getElem?_append_left l0]; exact h0, by simp, fun _ _ _ => rfl, rfl, fun o ho => ?_⟩
        rcases List.mem_append.mp ho with h | h
        · exact hlow o h
        · rw [List.mem_singleton.mp h]; rfl
      have hlv : ∀ r ∈ level, r ∈ R ∧ liv f g r ∧ r.length = d := fun r hr => ⟨(h.lv r hr).1, (h.rw' r (h.lv r hr).1).1, (h.lv r hr).2⟩
      -- the walk over the level
      have key : (∃ w S', sForD (fVar 4) (tgName 6) ptL [formD f, formD g, x2, .loc 0, x4, .loc S.length, x6, x7, x8, x9, x10] (S ++ [.lst []]) = .rt (rowD w) S' ∧ Hit f g d w) ∨
          (∃ y6 y7 y8 y9 y10 S' lat', sForD (fVar 4) (tgName 6) ptL [formD f, formD g, x2, .loc 0, x4, .loc S.length, x6, x7, x8, x9, x10] (S ++ [.lst []]) = .nx [formD f, formD g, x2, .loc 0, x4, .loc S.length, y6, y7, y8, y9, y10] S' ∧ PIn f g S.length R lat' (S ++ [.lst []]) S' ∧ MI f g d R (prs level) lat') := by
        rcases h4 with rfl | ⟨n, rfl, hn, hS⟩
        · have e : sForD (fVar 4) (tgName 6) ptL [formD f, formD g, x2, .loc 0, .lst (level.map (kk f g)), .loc S.length, x6, x7, x8, x9, x10] (S ++ [.lst []]) = forL (tgName 6) ptL (level.map (kk f g)) [formD f, formD g, x2, .loc 0, .lst (level.map (kk f g)), .loc S.length, x6, x7, x8, x9, x10] (S ++ [.lst []]) := rfl
          rw [e]
          have := t_ptF (x2 := x2) (x4 := .lst (level.map (kk f g))) (m := S.length) hf hg (by omega) (by omega) hB level [] [] x6 x7 x8 x9 x10 (S ++ [.lst []]) hlv M0 P0
          rw [List.nil_append] at this
          exact this
        · have hn2 : n < S.length := (List.getElem?_eq_some_iff.mp hS).1
          have hS2 : (S ++ [Ob.lst []])[n]? = some (.lst (level.map (kk f g))) := by rw [List.getElem?_append_left hn2]; exact hS
          have e : sForD (fVar 4) (tgName 6) ptL [formD f, formD g, x2, .loc 0, .loc n, .loc S.length, x6, x7, x8, x9, x10] (S ++ [Ob.lst []]) = forV (tgName 6) ptL n (level.length + 1) ([] : List (List Int)).length [formD f, formD g, x2, .loc 0, .loc n, .loc S.length, x6, x7, x8, x9, x10] (S ++ [Ob.lst []]) := by
            show (match (S ++ [Ob.lst []])[n]? with
              | some (.lst l) => forV (tgName 6) ptL n (l.length + 1) 0 [formD f, formD g, x2, .loc 0, .loc n, .loc S.length, x6, x7, x8, x9, x10] (S ++ [Ob.lst []])
              | _ => .bad) = _
            rw [hS2]; simp
          rw [e]
          have := t_ptV (x2 := x2) (x4 := .loc n) (m := S.length) (n := n) (L := level) hf hg (by omega) hn (by omega) hS2 (by omega) hB hlv level [] [] [] x6 x7 x8 x9 x10 (S ++ [.lst []]) rfl M0 P0
          rw [List.nil_append] at this
          exact this
      have s5 : sAsg 5 (fLst true (fNil)) [formD f, formD g, x2, .loc 0, x4, x5, x6, x7, x8, x9, x10] S = .nx [formD f, formD g, x2, .loc 0, x4, .loc S.length, x6, x7, x8, x9, x10] (S ++ [.lst []]) := rfl
      rcases key with ⟨w, S', e, hit⟩ | ⟨y6, y7, y8, y9, y10, S', lat, e, P, M⟩
      · refine .inr ⟨w, S', hit.parted h, ?_, while_rt hct ?_⟩
        · obtain ⟨r, s, rfl, _, hrd, _⟩ := hit
          rw [List.length_append, List.length_singleton]; omega
        · unfold ptW
          rw [sSeq_nx s5, x_seq, e]; rfl
      · have hb : ptW [formD f, formD g, x2, .loc 0, x4, x5, x6, x7, x8, x9, x10] S = .nx [formD f, formD g, x2, .loc 0, .loc S.length, .loc S.length, y6, y7, y8, y9, y10] S' := by
          unfold ptW
          rw [sSeq_nx s5, sSeq_nx e]; rfl
        rw [while_go hct hb]
        refine ih (d + 1) (R ++ lat) lat (.loc S.length) (.loc S.length) y6 y7 y8 y9 y10 S' (M.next h) P.s0 (.inr ⟨S.length, rfl, by omega, P.sm⟩) P.low (fun _ => ?_) (fun hne => ?_)
        · have := h2 hl; omega
        · have := h2 hl
          have : 0 < lat.length := List.length_pos_iff.mpr hne
          rw [List.length_append]; omega
end
theorem t_start_of {vs : List Lv} {S : Sto} (h : Form vs) : pureF f_start_of [formD vs] S = .ok (stD (zer vs)) S := by
  refine pure_eq low_form ?_
  have h1 := h.1
  have h2 := h.2.1
  have e := fun S => x_repT (d := .tup [.int 0, .int 0]) (n := (vs.map Lv.D).length) (S := S) (by rw [List.length_map]; omega) (by rw [List.length_map]; omega)
  unfold f_start_of fn b_start_of
  show fnEnd false 0 (sRet _ [formD vs] []) = _
  rw [x_ret, op2F (x := .tup [.tup [.int 0, .int 0]]) (S1 := []) (by rfl) (opNF0 (consF rfl x_nil) x_lenT) (e [])]
  have : stD (zer vs) = .tup (List.replicate (vs.map Lv.D).length (.tup [.int 0, .int 0])) := by
    unfold stD zer
    rw [List.map_replicate, List.length_map]; rfl
  rw [this]
  exact end_rt rfl
theorem setl_zer : ∀ {vs : List Lv}, (∀ v ∈ vs, v.Ok) → setlM vs (zer vs) = zer vs
  | [], _ => rfl
  | v :: vs, h => by
    show setlP v (0, 0) :: setlM vs (zer vs) = _
    rw [setl_zer fun w hw => h w (by simp [hw])]
    have ht := (h v (by simp)).1
    rcases setlP_cases v (0, 0) with ⟨_, h0, _⟩ | ⟨_, e⟩
    · simp only at h0; omega
    · rw [e]; rfl
def rowO : Option (List Int) → D
  | none => .non
  | some w => rowD w
theorem t_parting {f g : List Lv} (hf : Form f) (hg : Form g) (few : Few f g) : ∃ o, Parted f g o ∧ (∀ w, o = some w → w.length < 16777216) ∧ ∀ S, pureF f_parting [formD f, formD g] S = .ok (rowO o) S := by
  have hlow : lowL 0 [formD f, formD g] = true := by simp only [lowL, low_form']; rfl
  have hk : kk f g [] = .tup [stD (zer f), stD (zer g)] := by
    show D.tup [stD (setlM f (zer f)), stD (setlM g (zer g))] = _
    rw [setl_zer hf.2.2, setl_zer hg.2.2]
  have b0 : BI f g 0 [[]] [[]] := by
    have l0 : liv f g [] := ⟨rfl, rfl, fun r hr => by cases hr⟩
    refine ⟨⟨by simp, fun q s h => by simp at h⟩, fun r hr => ?_, fun r hs hl => ?_, fun r hr => ?_, fun r hr => .inl hr⟩
    · rw [List.mem_singleton.mp hr]; exact ⟨l0, by simp⟩
    · have : r = [] := List.eq_nil_of_length_eq_zero (by omega)
      subst this
      exact ⟨rfl, fun _ => by simp⟩
    · rw [List.mem_singleton.mp hr]; exact ⟨by simp, rfl⟩
  have w := t_ptWhile (x2 := kk f g []) hf hg few 20000000 0 [[]] [[]] (.lst [kk f g []]) .und .und .und .und .und .und [.dct false (srcE f g [[]])] b0 rfl (.inl rfl) (fun o ho => by rw [List.mem_singleton.mp ho]; exact low_src) (by simp) (by simp)
  have start : ∀ r, f_parting [formD f, formD g] [] = r ↔ fnEnd false 0 (sSeq (whileL ptC ptW 20000000) (sRet (fCon .non)) [formD f, formD g, kk f g [], .loc 0, .lst [kk f g []], .und, .und, .und, .und, .und, .und] [.dct false (srcE f g [[]])]) = r := by
    intro r
    unfold f_parting fn b_parting
    show fnEnd false 0 (sSeq _ (sSeq _ (sSeq _ (sSeq _ (sSeq (whileL ptC ptW 20000000) _)))) [formD f, formD g, .und, .und, .und, .und, .und, .und, .und, .und, .und] []) = r ↔ _
    rw [sSeq_nx (e' := [formD f, formD g, .und, .und, .und, .und, .und, .und, .und, .und, .und]) (S' := []) (by rw [x_expr, callF (consF rfl x_nil) (t_need_form hf)]; rfl)]
    rw [sSeq_nx (e' := [formD f, formD g, .und, .und, .und, .und, .und, .und, .und, .und, .und]) (S' := []) (by rw [x_expr, callF (consF rfl x_nil) (t_need_form hg)]; rfl)]
    rw [sSeq_nx (e' := [formD f, formD g, kk f g [], .und, .und, .und, .und, .und, .und, .und, .und]) (S' := []) (by
      rw [hk]
      refine asgF ?_
      rw [x_tup, consF (callF (consF rfl x_nil) (t_start_of hf)) (consF (callF (consF rfl x_nil) (t_start_of hg)) x_nil)]; rfl)]
    rw [sSeq_nx (e' := [formD f, formD g, kk f g [], .loc 0, .lst [kk f g []], .und, .und, .und, .und, .und, .und]) (S' := [.dct false (srcE f g [[]])]) (by
      have e1 : fDct1 (fVar 2) (fCon .non) [formD f, formD g, kk f g [], .und, .und, .und, .und, .und, .und, .und, .und] [] = .ok (.loc 0) [.dct false (srcE f g [[]])] := by
        show (bif keyOk (kyD (kyR f g [])) then Out.ok (D.loc 0) [Ob.dct false [(kk f g [], .non)]] else .bad) = _
        rw [keyOk_ky]; rfl
      rw [x_par2, consF e1 (consF (x := .lst [kk f g []]) (S1 := [.dct false (srcE f g [[]])]) (by rfl) x_nil)]; rfl)]
  rcases w with ⟨hp, env', S', e⟩ | ⟨w, S', hp, hl, e⟩
  · refine ⟨none, hp, (fun w h => by cases h), fun S => pure_eq hlow ((start _).mpr ?_)⟩
    rw [sSeq_nx e]
    exact end_pl (n := 0) rfl (by omega)
  · refine ⟨some w, hp, (fun w' h => by cases h; exact hl), fun S => pure_eq hlow ((start _).mpr ?_)⟩
    rw [x_seq, e]
    exact end_pl (n := 1) (by show plL 0 _ = true; exact plL_ints w) (by omega)

end Sf
end

section
set_option Elab.async false
set_option maxRecDepth 100000
set_option linter.all false
set_option maxHeartbeats 4000000
namespace Sf
open PySem L2
/-! not too many pairs of scores: boxes -/
theorem afterL_no {v : Lv} {vs : List Lv} {p : Pr} {ps : List Pr} {s : Int} (hw : lwonP v (plusM p s) s = false) : afterL (v :: vs) (p :: ps) s = (plusM p s :: ps, none) := by unfold afterL; rw [hw]; rfl
theorem afterL_one {v : Lv} {p : Pr} {ps : List Pr} {s : Int} (hw : lwonP v (plusM p s) s = true) : afterL [v] (p :: ps) s = (plusM p s :: ps, some s) := by unfold afterL; rw [hw]; rfl
theorem afterL_up {v v2 : Lv} {vs : List Lv} {p : Pr} {ps : List Pr} {s : Int} (hw : lwonP v (plusM p s) s = true) : afterL (v :: v2 :: vs) (p :: ps) s = ((0, 0) :: (afterL (v2 :: vs) ps s).1, (afterL (v2 :: vs) ps s).2) := by
  rw [afterL, hw]
  · rfl
  · intro h; cases h
def RLs : List Lv → List Pr → Prop
  | v :: vs, p :: ps => RL v p ∧ RLs vs ps
  | [], [] => True
  | _, _ => False
theorem RLs.start : ∀ {vs : List Lv}, (∀ v ∈ vs, v.Ok) → RLs vs (zer vs)
  | [], _ => trivial
  | v :: vs, h => ⟨RL.zero (h v (by simp)), RLs.start fun w hw => h w (by simp [hw])⟩
theorem RLs.step : ∀ {vs : List Lv} {ps : List Pr} {s : Int}, RLs vs ps → (∀ v ∈ vs, v.Ok) → (s = 0 ∨ s = 1) → (afterL vs ps s).2 = none → RLs vs (afterL vs ps s).1
  | [], [], s, _, _, _, _ => trivial
  | [], p :: ps, s, h, _, _, _ => h.elim
  | v :: vs, [], s, h, _, _, _ => h.elim
  | v :: vs, p :: ps, s, h, hv, hs, hn => by
    have hv0 := hv v (by simp)
    cases hw : lwonP v (plusM p s) s with
    | false => rw [afterL_no hw]; exact ⟨h.1.step hv0 hs hw, h.2⟩
    | true =>
      cases vs with
      | nil => rw [afterL_one hw] at hn; cases hn
      | cons v2 vs =>
        rw [afterL_up hw] at hn ⊢
        exact ⟨RL.zero hv0, RLs.step h.2 (fun w hw => hv w (List.mem_cons_of_mem _ hw)) hs hn⟩
theorem RLs.play {vs : List Lv} (hv : ∀ v ∈ vs, v.Ok) {r : List Int} (hr : Sides r) (hw : (playL vs r).w = none) : RLs vs (playL vs r).st := by
  induction r using snoc_ind with
  | h0 => exact RLs.start hv
  | h1 r s ih =>
    have hp := play_pre hw
    obtain ⟨a, b⟩ := sides_app hr
    rw [playL_snoc, stepL_none hp] at hw ⊢
    exact (ih a hp).step hv (b s (by simp)) hw
theorem RL.setl {v : Lv} {p : Pr} (hv : v.Ok) (h : RL v p) : RL v (setlP v p) := by
  rcases setlP_cases v p with ⟨hc, h0, e⟩ | ⟨_, e⟩
  · obtain ⟨h1, h2, h3, h4⟩ := h
    have h5 := h3.setl
    have ht := hv.1
    rw [e] at h5 ⊢
    refine ⟨by simp only; omega, by simp only; omega, h5, fun hl => ?_⟩
    have := h4 hl; omega
  · rw [e]; exact h
theorem RLs.setl : ∀ {vs : List Lv} {ps : List Pr}, (∀ v ∈ vs, v.Ok) → RLs vs ps → RLs vs (setlM vs ps)
  | [], [], _, _ => trivial
  | [], p :: ps, _, h => h.elim
  | v :: vs, [], _, h => h.elim
  | v :: vs, p :: ps, hv, h => ⟨h.1.setl (hv v (by simp)), RLs.setl (fun w hw => hv w (by simp [hw])) h.2⟩
def grid : List Pr := [0, 1, 2, 3, 4, 5, 6, 7, 8, 9].flatMap fun a => [0, 1, 2, 3, 4, 5, 6, 7, 8, 9].map fun b => (a, b)
def bxB (v : Lv) (p : Pr) : Bool := !(decide (v.t ≤ p.1) && decide (v.l ≤ p.1 - p.2)) && (!(decide (v.t ≤ p.2) && decide (v.l ≤ p.2 - p.1)) && ((match v.c with
  | none => decide (p.1 < v.t) || decide (p.2 < v.t)
  | some c => decide (p.1 < c) && decide (p.2 < c)) && (!(decide (v.l = 1)) || (decide (p.1 < v.t) && decide (p.2 < v.t)))))
def bx (v : Lv) : List Pr := grid.filter (bxB v)
theorem mem_grid {p : Pr} (h1 : 0 ≤ p.1) (h2 : p.1 < 10) (h3 : 0 ≤ p.2) (h4 : p.2 < 10) : p ∈ grid := by
  obtain ⟨a, b⟩ := p
  unfold grid
  simp only [List.mem_flatMap, List.mem_map, Prod.mk.injEq]
  refine ⟨a, by simp; omega, b, by simp; omega, rfl, rfl⟩
theorem mem_bx {v : Lv} {p : Pr} (hv : v.Ok) (h : RL v p) (hse : setlP v p = p) : p ∈ bx v := by
  obtain ⟨h1, h2, ⟨n1, n2, n3⟩, h4⟩ := h
  obtain ⟨o1, o2, o3, o4, o5⟩ := hv
  have key : p.1 < 10 ∧ p.2 < 10 ∧ (v.c = none → min p.1 p.2 < v.t) := by
    cases hc : v.c with
    | some c => have := o5 c hc; have := n3 c hc; exact ⟨by omega, by omega, fun h => by cases h⟩
    | none =>
      rcases setlP_cases v p with ⟨_, h0, e⟩ | ⟨h0, e⟩
      · rw [e] at hse
        have e1 : p.1 - (min p.1 p.2 - v.t + 1) = p.1 := congrArg Prod.fst hse
        omega
      · have := h0 hc; exact ⟨by omega, by omega, fun _ => by omega⟩
  refine List.mem_filter.mpr ⟨mem_grid h1 key.1 h2 key.2.1, ?_⟩
  unfold bxB
  have a1 : (decide (v.t ≤ p.1) && decide (v.l ≤ p.1 - p.2)) = false := by rw [Bool.eq_false_iff]; simpa using n1
  have a2 : (decide (v.t ≤ p.2) && decide (v.l ≤ p.2 - p.1)) = false := by rw [Bool.eq_false_iff]; simpa using n2
  rw [a1, a2]
  have a3 : (match v.c with
    | none => decide (p.1 < v.t) || decide (p.2 < v.t)
    | some c => decide (p.1 < c) && decide (p.2 < c)) = true := by
    cases hc : v.c with
    | some c => have := n3 c hc; simp [this]
    | none => have := key.2.2 hc; simp; omega
  rw [a3]
  by_cases hl : v.l = 1
  · have := h4 hl; simp [this]
  · simp [hl]
def bxF : List Lv → List (List Pr)
  | [] => [[]]
  | v :: vs => (bx v).flatMap fun p => (bxF vs).map fun q => p :: q
def cnt : List Lv → Nat
  | [] => 1
  | v :: vs => (bx v).length * cnt vs
theorem bxF_len : ∀ vs : List Lv, (bxF vs).length = cnt vs
  | [] => rfl
  | v :: vs => by
    unfold bxF cnt
    rw [len_flat_const (k := cnt vs) fun a ha => by rw [List.length_map, bxF_len vs]]
theorem mem_bxF : ∀ {vs : List Lv} {st : List Pr}, (∀ v ∈ vs, v.Ok) → RLs vs st → setlM vs st = st → st ∈ bxF vs
  | [], [], _, _, _ => by simp [bxF]
  | [], p :: ps, _, h, _ => h.elim
  | v :: vs, [], _, h, _ => h.elim
  | v :: vs, p :: ps, hv, h, hse => by
    simp only [setlM, List.cons.injEq] at hse
    unfold bxF
    exact List.mem_flatMap.mpr ⟨p, mem_bx (hv v (by simp)) h.1 hse.1, List.mem_map.mpr ⟨ps, mem_bxF (fun w hw => hv w (by simp [hw])) h.2 hse.2, rfl⟩⟩
theorem play_bxF {vs : List Lv} {r : List Int} (hv : ∀ v ∈ vs, v.Ok) (hr : Sides r) (hw : (playL vs r).w = none) : setlM vs (playL vs r).st ∈ bxF vs := mem_bxF hv ((RLs.play hv hr hw).setl hv) setlM_idem
def prod2 {α β : Type} (A : List α) (B : List β) : List (α × β) := A.flatMap fun a => B.map fun b => (a, b)
theorem prod2_len {α β : Type} (A : List α) (B : List β) : (prod2 A B).length = A.length * B.length := by
  unfold prod2
  rw [len_flat_const (k := B.length) fun a ha => by rw [List.length_map]]
theorem mem_prod2 {α β : Type} {A : List α} {B : List β} {a : α} {b : β} (ha : a ∈ A) (hb : b ∈ B) : (a, b) ∈ prod2 A B := List.mem_flatMap.mpr ⟨a, ha, List.mem_map.mpr ⟨b, hb, rfl⟩⟩
theorem few_of {f g : List Lv} (h : ∀ d, (∀ r, Sides r → r.length ≤ d → same f g r) → ∃ B : List Ky, B.length < 16777216 ∧ ∀ r, liv f g r → r.length ≤ d + 1 → kyR f g r ∈ B) : Few f g := by
  intro d l e nd hl
  obtain ⟨B, hB, hm⟩ := h d e
  have := nodup_le nd fun k hk => by
    obtain ⟨r, hr, rfl⟩ := List.mem_map.mp hk
    exact hm r (hl r hr).1 (hl r hr).2
  rw [List.length_map] at this
  omega
theorem Few.box {f g : List Lv} (hf : ∀ v ∈ f, v.Ok) (hg : ∀ v ∈ g, v.Ok) (h : cnt f * cnt g < 16777216) : Few f g :=
  few_of fun d _ => ⟨prod2 (bxF f) (bxF g), by rw [prod2_len, bxF_len, bxF_len]; exact h, fun r hr _ => mem_prod2 (play_bxF hf hr.s hr.a) (play_bxF hg hr.s hr.b)⟩
theorem Few.symm {f g : List Lv} (h : Few f g) : Few g f := by
  intro d l e nd hl
  refine h d l (fun r hr hd => (e r hr hd).symm) ?_ (fun r hr => ⟨⟨(hl r hr).1.b, (hl r hr).1.a, (hl r hr).1.s⟩, (hl r hr).2⟩)
  have e : l.map (kyR f g) = (l.map (kyR g f)).map Prod.swap := by rw [List.map_map]; rfl
  rw [e]
  show List.Pairwise _ _
  rw [List.pairwise_map]
  exact List.Pairwise.imp (fun {a b} hne he => hne (by have := congrArg Prod.swap he; simpa using this)) nd

end Sf
end

section
set_option Elab.async false
set_option maxRecDepth 100000
set_option linter.all false
set_option maxHeartbeats 4000000
namespace Sf
open PySem L2
/-! the same first level; a row that parts -/
def SmG (v w : Lv) : Prop := ∀ p s, RL v p → (s = 0 ∨ s = 1) → lwonP v (plusM p s) s = lwonP w (plusM p s) s
theorem SmG.refl {v : Lv} : SmG v v := fun _ _ _ _ => rfl
theorem heads {v w : Lv} {vs ws : List Lv} (hv : v.Ok) (hw : w.Ok) (sg : SmG v w) {r : List Int} (hl : liv (v :: vs) (w :: ws) r) : ∃ p ps qs, (playL (v :: vs) r).st = p :: ps ∧ (playL (w :: ws) r).st = p :: qs ∧ RL v p ∧ RL w p := by
  induction r using snoc_ind with
  | h0 => exact ⟨(0, 0), zer vs, zer ws, rfl, rfl, RL.zero hv, RL.zero hw⟩
  | h1 r s ih =>
    have hp := liv_pre hl
    have hs : s = 0 ∨ s = 1 := hl.s s (by simp)
    obtain ⟨p, ps, qs, e1, e2, r1, r2⟩ := ih hp
    have a := hl.a
    have b := hl.b
    rw [playL_snoc, stepL_none hp.a, e1] at a
    rw [playL_snoc, stepL_none hp.b, e2] at b
    rw [playL_snoc, playL_snoc, stepL_none hp.a, stepL_none hp.b, e1, e2]
    simp only at a b ⊢
    have sw := sg p s r1 hs
    cases hc : lwonP v (plusM p s) s with
    | false =>
      have hc' := sw.symm.trans hc
      rw [afterL_no hc, afterL_no hc']
      exact ⟨plusM p s, ps, qs, rfl, rfl, r1.step hv hs hc, r2.step hw hs hc'⟩
    | true =>
      have hc' := sw.symm.trans hc
      cases vs with
      | nil => rw [afterL_one hc] at a; cases a
      | cons v2 vs =>
        cases ws with
        | nil => rw [afterL_one hc'] at b; cases b
        | cons w2 ws =>
          rw [afterL_up hc, afterL_up hc']
          exact ⟨(0, 0), _, _, rfl, rfl, RL.zero hv, RL.zero hw⟩
theorem Few.head {v w : Lv} {vs ws : List Lv} (hv : ∀ u ∈ v :: vs, u.Ok) (hw : ∀ u ∈ w :: ws, u.Ok) (sg : SmG v w) (hc : ∀ p, RL v p → setlP v (setlP w p) = setlP v p) (h : (bx w).length * (cnt vs * cnt ws) < 16777216) : Few (v :: vs) (w :: ws) :=
  few_of fun d _ => ⟨(bx w).flatMap fun q => (prod2 (bxF vs) (bxF ws)).map fun x => (setlP v q :: x.1, q :: x.2), by
    rw [len_flat_const (k := cnt vs * cnt ws) fun a ha => by rw [List.length_map, prod2_len, bxF_len, bxF_len]]; exact h, fun r hr _ => by
    obtain ⟨p, ps, qs, e1, e2, r1, r2⟩ := heads (hv v (by simp)) (hw w (by simp)) sg hr
    have p1 := RLs.play hv hr.s hr.a
    have p2 := RLs.play hw hr.s hr.b
    rw [e1] at p1
    rw [e2] at p2
    have hv' : ∀ u ∈ vs, u.Ok := fun u hu => hv u (by simp [hu])
    have hw' : ∀ u ∈ ws, u.Ok := fun u hu => hw u (by simp [hu])
    refine List.mem_flatMap.mpr ⟨setlP w p, mem_bx (hw w (by simp)) (r2.setl (hw w (by simp))) setlP_idem, List.mem_map.mpr ⟨(setlM vs ps, setlM ws qs), mem_prod2 (mem_bxF hv' (p1.2.setl hv') setlM_idem) (mem_bxF hw' (p2.2.setl hw') setlM_idem), ?_⟩⟩
    unfold kyR
    rw [e1, e2]
    show (setlP v (setlP w p) :: setlM vs ps, setlP w p :: setlM ws qs) = (setlP v p :: setlM vs ps, setlP w p :: setlM ws qs)
    rw [hc p r1]⟩
theorem Few.same {v : Lv} {vs ws : List Lv} (hv : ∀ u ∈ v :: vs, u.Ok) (hw : ∀ u ∈ v :: ws, u.Ok) (h : (bx v).length * (cnt vs * cnt ws) < 16777216) : Few (v :: vs) (v :: ws) := .head hv hw .refl (fun _ _ => setlP_idem) h
/-! a row that parts -/
def bxR (c : Lv) (m L : Int) : List Pr := (bx c).filter fun p => decide (m * (p.1 + p.2) ≤ L)
def bxC (a b c : Lv) (L : Int) : List (List Pr) := (bx a).flatMap fun p => (bx b).flatMap fun q => (bxR c (leastU a * leastU b) L).map fun t => [p, q, t]
theorem bxC_len {a b c : Lv} {L : Int} : (bxC a b c L).length = (bx a).length * ((bx b).length * (bxR c (leastU a * leastU b) L).length) := by
  unfold bxC
  rw [len_flat_const (k := (bx b).length * (bxR c (leastU a * leastU b) L).length) fun p _ => by
    rw [len_flat_const (k := (bxR c (leastU a * leastU b) L).length) fun q _ => by rw [List.length_map]]]
theorem setlP_sum {v : Lv} {p : Pr} : (setlP v p).1 + (setlP v p).2 ≤ p.1 + p.2 := by
  rcases setlP_cases v p with ⟨_, h0, e⟩ | ⟨_, e⟩
  · rw [e]; simp only; omega
  · rw [e]; omega
theorem mem_bxC {a b c : Lv} {r : List Int} {L : Int} (hf : ∀ u ∈ [a, b, c], u.Ok) (hr : Sides r) (hw : (playL [a, b, c] r).w = none) (hl : (r.length : Int) ≤ L) : setlM [a, b, c] (playL [a, b, c] r).st ∈ bxC a b c L := by
  have ha := hf a (by simp)
  have hb := hf b (by simp)
  have hc := hf c (by simp)
  have R := RLs.play hf hr hw
  obtain ⟨c1, c2⟩ := play_cut (F := [a, b]) (G := [c]) (by simp) (by simp) r
  have ok := cutU_ok (F := [a, b]) r
  generalize cutU [a, b] r = x at c1 c2 ok
  obtain ⟨bs, part⟩ := x
  simp only at c1 c2
  have hw2 : (playL [c] (bs.map (·.2))).w = none := by rw [← c1]; exact hw
  have c2 := c2 hw2
  have hbs : ∀ b' ∈ bs, Sides b'.1 := sides_cut (bs := bs) (by have := ok.e; simp only at this; rw [this] at hr; exact (sides_app hr).1)
  have hus : Sides (bs.map (·.2)) := sides_snd hbs ok.u
  obtain ⟨e3, r3⟩ := one_play hc _ hus hw2
  have hfl := flat_ge (lo := leastM [a, b]) (bs := bs) fun b' hb' => Mt.ge (by simp) (fun u hu => hf u (by simp at hu ⊢; rcases hu with h | h <;> simp [h])) (hbs b' hb') (ok.u b' hb')
  have hlen : (bs.map (·.1)).flatten.length ≤ r.length := by have := ok.e; simp only at this; rw [this]; simp
  have hcl := cnt_len hus
  rw [List.length_map] at hcl
  have hst : ([a, b, c] : List Lv) = [a, b] ++ [c] := rfl
  have c2' : (playL [a, b, c] r).st = (playL [a, b] part).st ++ [cntP (bs.map (·.2))] := by rw [← e3]; exact c2
  have l2 : (playL [a, b] part).st.length = 2 := st_len
  rw [c2'] at R ⊢
  match hq : (playL [a, b] part).st, l2 with
  | [p, q], _ =>
    rw [hq] at R
    have m2 : leastM [a, b] = leastU a * leastU b := by simp [leastM]
    have g1 : setlM [a, b, c] ([p, q] ++ [cntP (bs.map (·.2))]) = [setlP a p, setlP b q, setlP c (cntP (bs.map (·.2)))] := rfl
    rw [g1]
    have i1 := mem_bx ha (R.1.setl ha) setlP_idem
    have i2 := mem_bx hb (R.2.1.setl hb) setlP_idem
    have i3 := mem_bx hc (R.2.2.1.setl hc) setlP_idem
    generalize hT : setlP c (cntP (bs.map (·.2))) = T at i3 ⊢
    unfold bxC
    rw [List.mem_flatMap]
    refine ⟨_, i1, ?_⟩
    rw [List.mem_flatMap]
    refine ⟨_, i2, ?_⟩
    rw [List.mem_map]
    refine ⟨T, ?_, rfl⟩
    unfold bxR
    rw [List.mem_filter]
    refine ⟨i3, decide_eq_true ?_⟩
    rw [← hT]
    have hs := setlP_sum (v := c) (p := cntP (bs.map (·.2)))
    have hm : 0 ≤ leastU a * leastU b := Int.mul_nonneg (by have := leastU_pos ha; omega) (by have := leastU_pos hb; omega)
    have h1 := Int.mul_le_mul_of_nonneg_left hs hm
    rw [m2] at hfl
    rw [hcl] at hfl
    omega
def certB (a b c x y z : Lv) (w : List Int) : Bool := w.all (fun s => decide (s = 0) || decide (s = 1)) && (!decide ((playL [a, b, c] w).w = (playL [x, y, z] w).w) && Nat.blt (((bx a).length * ((bx b).length * (bxR c (leastU a * leastU b) w.length).length)) * ((bx x).length * ((bx y).length * (bxR z (leastU x * leastU y) w.length).length))) 16777216)
theorem Few.cert {a b c x y z : Lv} {w : List Int} (hf : ∀ u ∈ [a, b, c], u.Ok) (hg : ∀ u ∈ [x, y, z], u.Ok) (h : certB a b c x y z w = true) : Few [a, b, c] [x, y, z] := by
  unfold certB at h
  simp only [Bool.and_eq_true, Bool.not_eq_true', decide_eq_false_iff_not] at h
  obtain ⟨h1, h2, h3⟩ := h
  have hs : Sides w := fun r hr => by
    have := List.all_eq_true.mp h1 r hr
    simpa using this
  have h3 := Nat.le_of_ble_eq_true h3
  refine few_of fun d e => ⟨prod2 (bxC a b c w.length) (bxC x y z w.length), by rw [prod2_len, bxC_len, bxC_len]; exact h3, fun r hr hl => ?_⟩
  have hd : d + 1 ≤ w.length := by
    by_cases hd : w.length ≤ d
    · exact absurd (e w hs hd) h2
    · omega
  exact mem_prod2 (mem_bxC hf hr.s hr.a (by omega)) (mem_bxC hg hr.s hr.b (by omega))

end Sf
end

section
set_option Elab.async false
set_option maxRecDepth 100000
set_option linter.all false
set_option maxHeartbeats 4000000
namespace Sf
open PySem L2
theorem mulI_r {i j : Int} {S : Sto} (h : Nat.blt j.natAbs 18446744073709551616 = true) : oMulI (.int i) (.int j) S = some (.int (i * j), S) := by
  show (bif mulOk i j then some (D.int (i * j), S) else none) = _
  unfold mulOk; rw [h]; simp
theorem low_lv1 {v : Lv} : lowL 0 [v.D] = true := by simp [lowL, low_Lv]

end Sf
end

section
set_option Elab.async false
set_option maxRecDepth 100000
set_option linter.all false
set_option maxHeartbeats 4000000
namespace Sf
open PySem L2
/-! longest -/
theorem t_most_units {v : Lv} {S : Sto} (hv : v ∈ lvAll) : pureF f_most_units [v.D] S = .ok (oI (mostU v)) S := by
  have h : (lvAll.all fun v => chk (f_most_units [v.D] []) (oI (mostU v))) = true := by decide +kernel
  exact pure_eq low_lv1 (chk_ok (all_ok h hv))
theorem mostU_small {v : Lv} {m : Int} (hv : v.Ok) (h : mostU v = some m) : 1 ≤ m ∧ m ≤ 17 := by
  obtain ⟨t, l, c⟩ := v
  obtain ⟨h1, h2, h3, h4, h5⟩ := hv
  simp only at h1 h2 h3 h4 h5
  unfold mostU at h
  simp only at h
  by_cases hl : l = 1
  · rw [if_pos hl] at h; cases h; omega
  · rw [if_neg hl] at h
    cases c with
    | none => cases h
    | some c => cases h; have := h5 c rfl; omega
def lgstB : FS := (sSeq (sAsg 3 (fCall (pureF f_most_units) (fCons (fVar 2) (fNil))))
    (sSeq (sIf (tVal (fOp2 oIs (fVar 3) (fCon .non))) (sRet (fCon .non)) (sSkip))
    (sAug 1 oMulI (fVar 3))))
theorem t_lgstB {x0 : D} : ∀ (vs : List Lv) (a : Int) (y z : D), (∀ v ∈ vs, v ∈ lvAll) →
    match mostM vs with
    | some m => ∃ y' z', forL (tgName 2) lgstB (vs.map Lv.D) [x0, .int a, y, z] [] = .nx [x0, .int (a * m), y', z'] []
    | none => forL (tgName 2) lgstB (vs.map Lv.D) [x0, .int a, y, z] [] = .rt .non []
  | [], a, y, z, _ => ⟨y, z, by rw [Int.mul_one]; rfl⟩
  | v :: vs, a, y, z, h => by
    have e := fun S => t_most_units (S := S) (h v (by simp))
    have fo : forL (tgName 2) lgstB ((v :: vs).map Lv.D) [x0, .int a, y, z] [] = forK (tgName 2) lgstB (vs.map Lv.D) (lgstB [x0, .int a, v.D, z] []) := by
      rw [List.map_cons, forL_cons (env1 := [x0, .int a, v.D, z]) rfl]
    rw [mostM, fo]
    unfold Lv.D at e ⊢
    cases h1 : mostU v with
    | none =>
      rw [h1] at e
      have : lgstB [x0, .int a, .tup [.int v.t, .int v.l, oI v.c], z] [] = .rt .non [] := by unfold lgstB; simp [e]
      rw [this]; rfl
    | some b =>
      rw [h1] at e
      have hb := mostU_small (lvAll_ok (h v (by simp))) h1
      have em := fun S => mulI_r (i := a) (j := b) (S := S) (nat_blt (by omega))
      have : lgstB [x0, .int a, .tup [.int v.t, .int v.l, oI v.c], z] [] = .nx [x0, .int (a * b), .tup [.int v.t, .int v.l, oI v.c], .int b] [] := by unfold lgstB; simp [e, em]
      rw [this]
      have ih := t_lgstB (x0 := x0) vs (a * b) (.tup [.int v.t, .int v.l, oI v.c]) (.int b) fun v hv => h v (by simp [hv])
      cases h2 : mostM vs with
      | none => rw [h2] at ih; exact ih
      | some m =>
        rw [h2] at ih
        obtain ⟨y', z', ih⟩ := ih
        exact ⟨y', z', by rw [← Int.mul_assoc]; exact ih⟩
theorem t_longest {vs : List Lv} {S : Sto} (hf : Form vs) (h : ∀ v ∈ vs, v ∈ lvAll) : pureF f_longest [formD vs] S = .ok (oI (mostM vs)) S := by
  refine pure_eq low_form ?_
  have e1 := fun S => t_need_form (S := S) hf
  have key := t_lgstB (x0 := formD vs) vs 1 .und .und h
  unfold f_longest fn b_longest
  change fnEnd false 0 (sSeq _ (sSeq _ (sSeq (sFor _ _ lgstB) _)) _ _) = _
  cases hm : mostM vs with
  | none =>
    rw [hm] at key
    simp only at key
    simp [e1, key, end_rt]
  | some m =>
    rw [hm] at key
    obtain ⟨y', z', key⟩ := key
    simp [e1, key, end_rt]

end Sf
end

section
set_option Elab.async false
set_option maxRecDepth 100000
set_option linter.all false
set_option maxHeartbeats 4000000
namespace Sf
open PySem L2
/-! shortest -/
theorem t_least_units {v : Lv} {S : Sto} (hv : v.Ok) : pureF f_least_units [v.D] S = .ok (.int (leastU v)) S := by
  refine pure_eq low_lv1 ?_
  obtain ⟨t, l, c⟩ := v
  unfold f_least_units fn b_least_units Lv.D leastU
  have m2 : ∀ (i j : Int) S, oMax2 [.int i, .int j] S = some (.int (max i j), S) := fun i j S => by
    show some (D.int (if j > i then j else i), S) = _
    congr 2; split <;> congr 1 <;> omega
  have n2 : ∀ (i j : Int) S, oMin2 [.int i, .int j] S = some (.int (min i j), S) := fun i j S => by
    show some (D.int (if j < i then j else i), S) = _
    congr 2; split <;> congr 1 <;> omega
  cases c with
  | none => simp [m2, end_rt]
  | some c => simp [m2, n2, end_rt]
theorem leastU_small {v : Lv} (hv : v.Ok) : 1 ≤ leastU v ∧ leastU v ≤ 5 := by
  obtain ⟨t, l, c⟩ := v
  obtain ⟨h1, h2, h3, h4, h5⟩ := hv
  simp only at h1 h2 h3 h4 h5
  cases c with
  | none => simp [leastU]; omega
  | some c => have := h5 c rfl; simp [leastU]; omega
def shrtB : FS := (sAug 1 oMulI (fCall (pureF f_least_units) (fCons (fVar 2) (fNil))))
theorem t_shrtB {x0 : D} : ∀ (vs : List Lv) (a : Int) (y : D), (∀ v ∈ vs, v.Ok) → ∃ y', forL (tgName 2) shrtB (vs.map Lv.D) [x0, .int a, y] [] = .nx [x0, .int (a * leastM vs), y'] []
  | [], a, y, _ => ⟨y, by simp [leastM, forL]⟩
  | v :: vs, a, y, h => by
    have e := fun S => t_least_units (S := S) (h v (by simp))
    have hb := leastU_small (h v (by simp))
    have em := fun S => mulI_r (i := a) (j := leastU v) (S := S) (nat_blt (by omega))
    obtain ⟨y', ih⟩ := t_shrtB (x0 := x0) vs (a * leastU v) v.D fun v hv => h v (by simp [hv])
    refine ⟨y', ?_⟩
    rw [List.map_cons, forL_cons (env1 := [x0, .int a, v.D]) rfl]
    have : shrtB [x0, .int a, v.D] [] = .nx [x0, .int (a * leastU v), v.D] [] := by unfold shrtB Lv.D at *; simp [e, em]
    rw [this]
    show forL _ _ _ _ _ = _
    rw [ih, leastM, Int.mul_assoc]
theorem t_shortest {vs : List Lv} {S : Sto} (hf : Form vs) : pureF f_shortest [formD vs] S = .ok (.int (leastM vs)) S := by
  refine pure_eq low_form ?_
  have e1 := fun S => t_need_form (S := S) hf
  obtain ⟨y', key⟩ := t_shrtB (x0 := formD vs) vs 1 .und hf.2.2
  unfold f_shortest fn b_shortest
  change fnEnd false 0 (sSeq _ (sSeq _ (sSeq (sFor _ _ shrtB) _)) _ _) = _
  simp [e1, key, end_rt]

end Sf
end

section
set_option Elab.async false
set_option maxRecDepth 100000
set_option linter.all false
set_option maxHeartbeats 4000000
namespace Sf
open PySem L2
/-! fractions: lowest, times, added, power -/
def B9 : Nat := 2 ^ 9000
def B4 : Nat := 2 ^ 40000
def B5 : Nat := 2 ^ 400000
theorem B4_B5 : B4 ≤ B5 := Nat.pow_le_pow_right (by omega) (by omega)
theorem log_B9 {n : Nat} (h0 : n ≠ 0) (h : n < B9) : Nat.blt n.log2 9000 = true := nat_blt ((Nat.log2_lt h0).mpr h)
def frD (r : Rat) : D := .tup [.int r.num, .int r.den]
def eucC : FT := tVal (fOp2 oGt (fVar 3) (fCon (.int 0)))
def eucB : FS := sPar2 2 3 (fCons (fVar 3) (fCons (fOp2 (oMod) (fVar 2) (fVar 3)) (fNil)))
theorem euc_go {x0 x1 : D} {S : Sto} {a b fuel : Nat} (h : 0 < b) : whileL eucC eucB (fuel + 1) [x0, x1, .int a, .int b] S = whileL eucC eucB fuel [x0, x1, .int b, .int (a % b : Nat)] S := by
  refine while_go (S2 := S) ?_ ?_
  · unfold eucC; simp [h]
  · have : ∀ S, oMod (.int a) (.int b) S = some (.int (a % b : Nat), S) := fun S => by
      rw [mod_ok (by omega)]; rfl
    unfold eucB
    simp only [x_par2, x_cons, x_var, x_op2, x_nil, List.getElem?_cons_succ, List.getElem?_cons_zero, x_bind, this, x_outO, x_bindS]
    rfl
theorem euc_end {x0 x1 : D} {S : Sto} {a fuel : Nat} : whileL eucC eucB (fuel + 1) [x0, x1, .int a, .int 0] S = .nx [x0, x1, .int a, .int 0] S := by
  refine while_end (S2 := S) ?_
  unfold eucC; simp
theorem t_euc {x0 x1 : D} {S : Sto} : ∀ (k a b fuel : Nat), b < 2 ^ k → 2 * k < fuel → whileL eucC eucB fuel [x0, x1, .int a, .int b] S = .nx [x0, x1, .int (Nat.gcd a b : Nat), .int 0] S
  | 0, a, b, fuel + 1, h, _ => by
    have : b = 0 := by simpa using h
    subst this
    rw [Nat.gcd_zero_right]; exact euc_end
  | k + 1, a, b, fuel + 2, h, hf => by
    by_cases h0 : b = 0
    · subst h0; rw [Nat.gcd_zero_right]; exact euc_end
    · rw [euc_go (by omega)]
      by_cases h1 : a % b = 0
      · rw [h1]
        have : Nat.gcd a b = b := by rw [Nat.gcd_comm, Nat.gcd_rec, h1, Nat.gcd_zero_left]
        rw [this]; exact euc_end
      · rw [euc_go (by omega)]
        have hb : b % (a % b) < 2 ^ k := by
          have h2 := Nat.mod_lt a (show 0 < b by omega)
          have h3 := Nat.mod_lt b (show 0 < a % b by omega)
          rw [Nat.pow_succ] at h
          generalize a % b = r at *
          by_cases c : r ≤ b / 2
          · omega
          · have : b % r = b - r := by rw [Nat.mod_eq_sub_mod (by omega), Nat.mod_eq_of_lt (by omega)]
            omega
        rw [t_euc k _ _ _ hb (by omega)]
        have : Nat.gcd (a % b) (b % (a % b)) = Nat.gcd a b := by
          rw [Nat.gcd_comm a b, Nat.gcd_rec b a, Nat.gcd_rec (a % b) b, Nat.gcd_comm]
        rw [this]
theorem x_abs {i : Int} {S : Sto} : oAbs [.int i] S = some (.int (i.natAbs : Nat), S) := by
  show some (D.int (if i < 0 then -i else i), S) = _
  congr 3
  split <;> omega
theorem t_lowest {n d : Int} {S : Sto} (h0 : d ≠ 0) (h1 : d.natAbs < B4) (h2 : Int.gcd n d < B9) : pureF f_lowest [.int n, .int d] S = .ok (frD (Rat.divInt n d)) S := by
  refine pure_eq rfl ?_
  have e := t_euc (x0 := .int n) (x1 := .int d) (S := []) 40000 n.natAbs d.natAbs 100000 h1 (by omega)
  have hg : Nat.gcd n.natAbs d.natAbs = Int.gcd n d := rfl
  rw [hg] at e
  have gp : 0 < Int.gcd n d := Int.gcd_pos_of_ne_zero_right _ h0
  have hl := log_B9 (by omega) h2
  have dn : ((Int.gcd n d : Nat) : Int) ∣ n := Int.gcd_dvd_left ..
  have dd : ((Int.gcd n d : Nat) : Int) ∣ d := Int.gcd_dvd_right ..
  have en : (Rat.divInt n d).num = d.sign * n / (Int.gcd n d : Nat) := by rw [Rat.num_divInt, Int.gcd_comm]
  have ed : (Rat.divInt n d).den = d.natAbs / Int.gcd n d := by rw [Rat.den_divInt, if_neg h0, Int.gcd_comm]
  unfold frD
  rw [en, ed]
  generalize Int.gcd n d = g at *
  have gi : (0 : Int) < g := by omega
  have e : whileL eucC eucB 100000 [.int n, .int d, .int (n.natAbs : Nat), .int (d.natAbs : Nat)] [] = _ := e
  unfold f_lowest fn b_lowest
  change fnEnd false 0 (sSeq _ (sSeq (whileL eucC eucB 100000) _) _ _) = _
  obtain ⟨kn, hn⟩ := dn
  obtain ⟨kd, hd⟩ := dd
  have gz : (g : Int) ≠ 0 := by omega
  have en2 : n / (g : Int) = kn := by rw [hn]; exact Int.mul_ediv_cancel_left _ gz
  have ed2 : d / (g : Int) = kd := by rw [hd]; exact Int.mul_ediv_cancel_left _ gz
  rcases Int.lt_or_lt_of_ne h0 with c | c
  · have f1 : n.fdiv (-(g : Int)) = -kn := by
      rw [Int.fdiv_eq_ediv_of_dvd ⟨-kn, by rw [Int.neg_mul_neg]; exact hn⟩, Int.ediv_neg, en2]
    have f2 : d.fdiv (-(g : Int)) = -kd := by
      rw [Int.fdiv_eq_ediv_of_dvd ⟨-kd, by rw [Int.neg_mul_neg]; exact hd⟩, Int.ediv_neg, ed2]
    have n1 : ¬ (0 : Int) < -(g : Int) := by omega
    have n2 : -(g : Int) < 0 := by omega
    have n3 : (-(g : Int)).natAbs = g := by omega
    have g1 : d.sign * n / (g : Int) = -kn := by
      rw [Int.sign_eq_neg_one_of_neg c]
      rw [show (-1 : Int) * n = (g : Int) * (-kn) by rw [hn, Int.mul_neg, Int.neg_one_mul]]
      exact Int.mul_ediv_cancel_left _ gz
    have g2 : ((d.natAbs / g : Nat) : Int) = -kd := by
      rw [Int.natCast_ediv]
      have : (d.natAbs : Int) = (g : Int) * (-kd) := by rw [Int.mul_neg, ← hd]; omega
      rw [this]
      exact Int.mul_ediv_cancel_left _ gz
    rw [g1, g2]
    have q1 : ∀ S, oFdiv (.int n) (.int (-(g : Int))) S = some (.int (-kn), S) := fun S => by
      rw [x_fdiv, decide_eq_false n1, decide_eq_true n2, n3, hl, f1]; rfl
    have q2 : ∀ S, oFdiv (.int d) (.int (-(g : Int))) S = some (.int (-kd), S) := fun S => by
      rw [x_fdiv, decide_eq_false n1, decide_eq_true n2, n3, hl, f2]; rfl
    simp [x_abs, e, c, q1, q2, end_rt]
  · have c' : ¬ d < 0 := by omega
    have g1 : d.sign * n / (g : Int) = kn := by
      rw [Int.sign_eq_one_of_pos c, Int.one_mul]; exact en2
    have g2 : ((d.natAbs / g : Nat) : Int) = kd := by
      rw [Int.natCast_ediv]
      have : (d.natAbs : Int) = d := by omega
      rw [this]; exact ed2
    rw [g1, g2]
    have n3 : ((g : Nat) : Int).natAbs = g := by omega
    have q1 : ∀ S, oFdiv (.int n) (.int (g : Int)) S = some (.int kn, S) := fun S => by
      rw [x_fdiv, decide_eq_true gi, n3, hl, en2]; rfl
    have q2 : ∀ S, oFdiv (.int d) (.int (g : Int)) S = some (.int kd, S) := fun S => by
      rw [x_fdiv, decide_eq_true gi, n3, hl, ed2]; rfl
    simp [x_abs, e, c', q1, q2, end_rt]
/-- sizes -/
def Sm (n : Int) : Prop := n.natAbs < B5
theorem mul_B4 {m : Bool} {i j : Int} {S : Sto} (h : Sm i) (h' : Sm j) : oMul m (.int i) (.int j) S = some (.int (i * j), S) := by
  have l : ∀ n : Int, Sm n → n.natAbs.log2 < 400001 := fun n h => by
    by_cases h0 : n.natAbs = 0
    · rw [h0]; decide
    · have := (Nat.log2_lt h0).mpr h; omega
  rw [x_mul]
  have : mulOk i j = true := by
    unfold mulOk
    have := nat_blt (show i.natAbs.log2 + j.natAbs.log2 < 1000000 by have := l i h; have := l j h'; omega)
    rw [this]; simp
  rw [this]; rfl
theorem divInt_mul {a b c d : Int} : Rat.divInt a b * Rat.divInt c d = Rat.divInt (a * c) (b * d) := Rat.divInt_mul_divInt _ _
theorem rat_mul (r s : Rat) : r * s = Rat.divInt (r.num * s.num) ((r.den : Int) * s.den) := by
  rw [← Rat.divInt_mul_divInt, Rat.num_divInt_den, Rat.num_divInt_den]
theorem rat_add (r s : Rat) : r + s = Rat.divInt (r.num * s.den + s.num * r.den) ((r.den : Int) * s.den) := by
  have h1 : (r.den : Int) ≠ 0 := by have := r.den_nz; omega
  have h2 : (s.den : Int) ≠ 0 := by have := s.den_nz; omega
  rw [← Rat.divInt_add_divInt _ _ h1 h2, Rat.num_divInt_den, Rat.num_divInt_den]
theorem gcd_le_den {n : Int} {d : Nat} (h : 0 < d) : Int.gcd n d ≤ d := by
  have : Int.gcd n d ∣ (d : Int).natAbs := Nat.gcd_dvd_right ..
  exact Nat.le_of_dvd h this
theorem B9_B4 : B9 ≤ B4 := Nat.pow_le_pow_right (by omega) (by omega)
theorem t_times {r s : Rat} {S : Sto} (h1 : Sm r.num) (h2 : Sm s.num) (h : r.den * s.den < B9) : pureF f_times [frD r, frD s] S = .ok (frD (r * s)) S := by
  refine pure_eq rfl ?_
  have p1 := r.den_pos
  have p2 := s.den_pos
  have q1 : r.den ≤ r.den * s.den := Nat.le_mul_of_pos_right _ p2
  have q2 : s.den ≤ r.den * s.den := Nat.le_mul_of_pos_left _ p1
  have b := B9_B4
  have b' := B4_B5
  have m1 := fun S => mul_B4 (m := false) (S := S) h1 h2
  have m2 := fun S => mul_B4 (m := false) (S := S) (i := r.den) (j := s.den) (show (r.den : Int).natAbs < B5 by omega) (show (s.den : Int).natAbs < B5 by omega)
  have hp : 0 < r.den * s.den := Nat.mul_pos p1 p2
  have e := fun S => t_lowest (n := r.num * s.num) (d := (r.den : Int) * s.den) (S := S) (by omega) (by rw [← Int.natCast_mul]; omega) (by rw [← Int.natCast_mul]; exact Nat.lt_of_le_of_lt (gcd_le_den hp) h)
  rw [rat_mul]
  unfold f_times fn b_times
  unfold frD at *
  simp [m1, m2, e, end_rt]
theorem t_added {r s : Rat} {S : Sto} (h1 : Sm r.num) (h2 : Sm s.num) (h : r.den * s.den < B9) : pureF f_added [frD r, frD s] S = .ok (frD (r + s)) S := by
  refine pure_eq rfl ?_
  have p1 := r.den_pos
  have p2 := s.den_pos
  have q1 : r.den ≤ r.den * s.den := Nat.le_mul_of_pos_right _ p2
  have q2 : s.den ≤ r.den * s.den := Nat.le_mul_of_pos_left _ p1
  have b := B9_B4
  have b' := B4_B5
  have s1 : Sm r.den := show (r.den : Int).natAbs < B5 by omega
  have s2 : Sm s.den := show (s.den : Int).natAbs < B5 by omega
  have m1 := fun S => mul_B4 (m := false) (S := S) h1 s2
  have m2 := fun S => mul_B4 (m := false) (S := S) h2 s1
  have m3 := fun S => mul_B4 (m := false) (S := S) s1 s2
  have hp : 0 < r.den * s.den := Nat.mul_pos p1 p2
  have e := fun S => t_lowest (n := r.num * s.den + s.num * r.den) (d := (r.den : Int) * s.den) (S := S) (by omega) (by rw [← Int.natCast_mul]; omega) (by rw [← Int.natCast_mul]; exact Nat.lt_of_le_of_lt (gcd_le_den hp) h)
  rw [rat_add]
  unfold f_added fn b_added
  unfold frD at *
  simp [m1, m2, m3, e, end_rt]
def pwQ : FS := sAug 2 oMulI (fVar 0)
theorem t_pwL {b : Int} {x1 : D} {S : Sto} : ∀ (l : List D) (a : Int) (z : D), (∀ k, k < l.length → Sm (a * b ^ k)) → Sm b → ∃ z', forL (tgName 3) pwQ l [.int b, x1, .int a, z] S = .nx [.int b, x1, .int (a * b ^ l.length), z'] S
  | [], a, z, _, _ => ⟨z, by simp [forL]⟩
  | d :: l, a, z, h, hb => by
    have h0 := h 0 (by simp)
    rw [Int.pow_zero, Int.mul_one] at h0
    have m1 := fun m S => mul_B4 (m := m) (S := S) h0 hb
    obtain ⟨z', ih⟩ := t_pwL (b := b) (x1 := x1) (S := S) l (a * b) d (fun k hk => by
      have := h (k + 1) (by simpa using hk)
      rw [Int.pow_succ, Int.mul_comm (b ^ k), ← Int.mul_assoc] at this; exact this) hb
    refine ⟨z', ?_⟩
    rw [forL_cons (env1 := [.int b, x1, .int a, d]) rfl]
    have e : pwQ [.int b, x1, .int a, d] S = .nx [.int b, x1, .int (a * b), d] S := by
      have : oMulI (.int a) (.int b) S = some (.int (a * b), S) := by
        have := m1 false S
        rw [x_mul] at this
        show (bif mulOk a b then some (D.int (a * b), S) else none) = _
        exact this
      unfold pwQ
      simp [this]
    rw [e]
    show forL _ _ _ _ _ = _
    rw [ih, List.length_cons, Int.pow_succ, Int.mul_comm (b ^ l.length), Int.mul_assoc]
theorem t_power {b : Int} {n : Nat} {S : Sto} (hn : n ≤ 1000) (h : ∀ k, k ≤ n → Sm (b ^ k)) (hb : Sm b) : pureF f_power [.int b, .int n] S = .ok (.int (b ^ n)) S := by
  refine pure_eq rfl ?_
  obtain ⟨z', e⟩ := t_pwL (b := b) (x1 := .int n) (S := []) (rngL 0 n) 1 .und (fun k hk => by rw [Int.one_mul]; rw [rngL_len] at hk; exact h k (by omega)) hb
  rw [rngL_len, Int.one_mul] at e
  have hk : kRng1 [.int n] = some (rngL 0 n) := by
    show (bif smallI n then some (rngL 0 (n : Int).toNat) else none) = _
    have : smallI (n : Int) = true := by unfold smallI; simp; omega
    rw [this]; rfl
  have kf : fit (rngL 0 n).length = true := by rw [rngL_len]; exact fit_of (by omega)
  unfold f_power fn b_power
  change fnEnd false 0 (sSeq _ (sSeq (sFor _ _ pwQ) _) _ _) = _
  simp [hk, kf, e, end_rt]

end Sf
end

section
set_option Elab.async false
set_option maxRecDepth 100000
set_option linter.all false
set_option maxHeartbeats 4000000
namespace Sf
open PySem L2
/-! walk -/
def wUp (l : Nat) (k : Int) : Nat := (l + k).toNat
def wDn (l : Nat) (k : Int) : Nat := (l - k).toNat
def winsI (x : Rat) (l : Nat) (k : Int) : Int := x.num ^ wDn l k * (x.num ^ wUp l k - (x.den - x.num) ^ wUp l k)
def wholeI (x : Rat) (l : Nat) : Int := x.num ^ (2 * l) - (x.den - x.num) ^ (2 * l)
def walkW (l : Nat) (k : Int) (x : Rat) : Rat := if x.num = x.den - x.num then Rat.divInt (l + k) (2 * l) else Rat.divInt (winsI x l k) (wholeI x l)
def walkE (l : Nat) (k : Int) (x : Rat) : Rat := if x.num = x.den - x.num then (((l + k) * (l - k) : Int) : Rat) else (2 * l * walkW l k x - ((l + k : Int) : Rat)) * Rat.divInt x.den (x.num - (x.den - x.num))
theorem pow_mono {a b : Int} (h0 : 0 ≤ a) (h : a ≤ b) : ∀ n : Nat, 0 ≤ a ^ n ∧ a ^ n ≤ b ^ n
  | 0 => by simp
  | n + 1 => by
    obtain ⟨h1, h2⟩ := pow_mono h0 h n
    rw [Int.pow_succ, Int.pow_succ]
    exact ⟨Int.mul_nonneg h1 h0, Int.mul_le_mul h2 h h0 (Int.le_trans h1 h2)⟩
theorem pow_lt {a b : Int} (h0 : 0 ≤ a) (h : a < b) : ∀ n : Nat, 0 < n → a ^ n < b ^ n
  | 0, h => absurd h (by omega)
  | n + 1, _ => by
    obtain ⟨h1, h2⟩ := pow_mono h0 (Int.le_of_lt h) n
    rw [Int.pow_succ, Int.pow_succ]
    have h3 : 0 < b ^ n := Int.pow_pos (by omega)
    calc a ^ n * a ≤ b ^ n * a := Int.mul_le_mul_of_nonneg_right h2 h0
      _ < b ^ n * b := Int.mul_lt_mul_of_pos_left h h3
theorem pow_exp {b : Int} (h : 1 ≤ b) {m n : Nat} (hmn : m ≤ n) : b ^ m ≤ b ^ n := by
  obtain ⟨k, rfl⟩ : ∃ k, n = m + k := ⟨n - m, by omega⟩
  rw [Int.pow_add]
  have h1 : (0 : Int) ≤ b ^ m := Int.pow_nonneg (by omega)
  have h2 : 1 ≤ b ^ k := Int.pow_pos (n := b) (by omega)
  have := Int.mul_le_mul_of_nonneg_left h2 h1
  omega
/-- a number below a power of the denominator -/
theorem sm_pow {d : Nat} {K : Nat} (hd : 1 ≤ d) (hD : d ^ K < B9) {a : Int} {n : Nat} (h0 : 0 ≤ a) (h : a ≤ d) (hn : n ≤ K) : 0 ≤ a ^ n ∧ a ^ n < B9 := by
  obtain ⟨h1, h2⟩ := pow_mono h0 h n
  refine ⟨h1, ?_⟩
  have h3 : (d : Int) ^ n ≤ (d : Int) ^ K := pow_exp (by omega) hn
  have h4 : ((d ^ K : Nat) : Int) < (B9 : Nat) := by omega
  rw [Int.natCast_pow] at h4
  omega
theorem B9_pos : 100 < B9 := Nat.lt_of_lt_of_le (show 100 < 2 ^ 7 by decide) (Nat.pow_le_pow_right (by omega) (by omega))
theorem B9_sq : B9 * B9 * 1000 < B4 := by
  have e : B9 * B9 = 2 ^ 18000 := by unfold B9; rw [← Nat.pow_add]
  rw [e]
  have : 2 ^ 18000 * 1000 < 2 ^ 18000 * 2 ^ 10 := Nat.mul_lt_mul_of_pos_left (by decide) (Nat.pow_pos (by omega))
  rw [← Nat.pow_add] at this
  exact Nat.lt_of_lt_of_le this (Nat.pow_le_pow_right (by omega) (by omega))
theorem Sm.of {n : Int} (h : n.natAbs < B9) : Sm n := Nat.lt_of_lt_of_le h (Nat.le_trans B9_B4 B4_B5)
theorem Sm.of2 {n : Int} {a b : Nat} (h : n.natAbs ≤ a * b * 1000) (ha : a ≤ B9) (hb : b ≤ B9) : Sm n := by
  have h1 : a * b ≤ B9 * B9 := Nat.mul_le_mul ha hb
  have := B9_sq
  have := B4_B5
  unfold Sm
  have : a * b * 1000 ≤ B9 * B9 * 1000 := Nat.mul_le_mul_right _ h1
  omega
theorem num_le {n d : Int} : (Rat.divInt n d).num.natAbs ≤ n.natAbs := by
  rw [Rat.num_divInt]
  refine Nat.le_trans (Int.natAbs_ediv_le_natAbs _ _) ?_
  rw [Int.natAbs_mul]
  have : d.sign.natAbs ≤ 1 := by
    rcases Int.lt_trichotomy d 0 with h | h | h
    · rw [Int.sign_eq_neg_one_of_neg h]; decide
    · rw [h]; decide
    · rw [Int.sign_eq_one_of_pos h]; decide
  calc d.sign.natAbs * n.natAbs ≤ 1 * n.natAbs := Nat.mul_le_mul_right _ this
    _ = n.natAbs := Nat.one_mul _
theorem den_le {n d : Int} (h : d ≠ 0) : (Rat.divInt n d).den ≤ d.natAbs := by
  rw [Rat.den_divInt, if_neg h]
  exact Nat.div_le_self _ _
theorem gcd_le_abs {n d : Int} (h : d ≠ 0) : Int.gcd n d ≤ d.natAbs := Nat.le_of_dvd (by omega) (Nat.gcd_dvd_right ..)
/-- added of raw pairs -/
theorem t_addedR {a b c d : Int} {S : Sto} (ha : Sm a) (hb : Sm b) (hc : Sm c) (hd : Sm d) (h0 : b * d ≠ 0) (h : (b * d).natAbs < B9) : pureF f_added [.tup [.int a, .int b], .tup [.int c, .int d]] S = .ok (frD (Rat.divInt (a * d + c * b) (b * d))) S := by
  refine pure_eq rfl ?_
  have m1 := fun S => mul_B4 (m := false) (S := S) ha hd
  have m2 := fun S => mul_B4 (m := false) (S := S) hc hb
  have m3 := fun S => mul_B4 (m := false) (S := S) hb hd
  have e := fun S => t_lowest (n := a * d + c * b) (d := b * d) (S := S) h0 (Nat.lt_of_lt_of_le h B9_B4) (Nat.lt_of_le_of_lt (gcd_le_abs h0) h)
  unfold f_added fn b_added
  simp [m1, m2, m3, e, end_rt]
theorem rat_self (w : Rat) : (w.num : Rat) = w * (w.den : Nat) := by
  have h := Rat.num_divInt_den w
  rw [Rat.divInt_eq_div] at h
  have h0 : ((w.den : Nat) : Rat) ≠ 0 := by rw [Ne, Rat.natCast_eq_zero_iff]; exact w.den_nz
  have h : (w.num : Rat) / (w.den : Nat) = w := h
  generalize (w.num : Rat) = a at *
  generalize ((w.den : Nat) : Rat) = b at *
  grind
theorem eu_eq {w : Rat} {l : Nat} {k : Int} : Rat.divInt (2 * l * w.num * 1 + -(l + k) * w.den) (w.den * 1) = 2 * l * w - ((l + k : Int) : Rat) := by
  rw [Rat.divInt_eq_div]
  have h0 : ((w.den : Nat) : Rat) ≠ 0 := by rw [Ne, Rat.natCast_eq_zero_iff]; exact w.den_nz
  simp only [Rat.intCast_add, Rat.intCast_mul, Rat.intCast_neg, rat_self, Rat.intCast_natCast]
  generalize ((w.den : Nat) : Rat) = b at *
  have e1 : ((1 : Int) : Rat) = 1 := rfl
  have e2 : ((2 : Int) : Rat) = 2 := rfl
  rw [e1, e2]
  generalize ((l : Nat) : Rat) = L
  generalize (k : Rat) = K
  grind
theorem t_walk {x : Rat} {l : Nat} {k : Int} {S : Sto} (hx : 0 ≤ x.num ∧ x.num ≤ x.den) (hl : 1 ≤ l ∧ l ≤ 3) (hk : -l < k ∧ k < l) (hD : x.den ^ 8 < B9) : pureF f_walk [frD x, .int l, .int k] S = .ok (.tup [frD (walkW l k x), frD (walkE l k x)]) S := by
  refine pure_eq rfl ?_
  have dp := x.den_pos
  obtain ⟨p, hp⟩ : ∃ p, p = x.num := ⟨_, rfl⟩
  obtain ⟨d, hd⟩ : ∃ d, d = x.den := ⟨_, rfl⟩
  have b9 := B9_pos
  have b4 := B9_B4
  have b4' := B4_B5
  unfold frD at *
  rw [← hp, ← hd] at hx
  rw [← hd] at hD dp
  unfold f_walk fn b_walk
  by_cases hq : x.num = x.den - x.num
  · have e1 : walkW l k x = Rat.divInt (l + k) (2 * l) := by unfold walkW; rw [if_pos hq]
    have e2 : walkE l k x = (((l + k) * (l - k) : Int) : Rat) := by unfold walkE; rw [if_pos hq]
    rw [e1, e2]
    have t1 := fun S => t_lowest (n := l + k) (d := 2 * l) (S := S) (by omega) (by omega) (Nat.lt_of_le_of_lt (gcd_le_abs (by omega)) (by omega))
    unfold frD at t1
    have m1 : ∀ S, oMul false (.int 2) (.int l) S = some (.int (2 * l), S) := fun S => mul_B4 (by unfold Sm; omega) (by unfold Sm; omega)
    have m2 : ∀ S, oMul false (.int (l + k)) (.int (l - k)) S = some (.int ((l + k) * (l - k)), S) := fun S => mul_B4 (by unfold Sm; omega) (by unfold Sm; omega)
    have n1 : (((l + k) * (l - k) : Int) : Rat).num = (l + k) * (l - k) := Rat.num_intCast _
    have n2 : (((l + k) * (l - k) : Int) : Rat).den = 1 := Rat.den_intCast _
    rw [n1, n2]
    have hq' : ((x.num : Int) = x.den - x.num) ↔ True := iff_true_intro hq
    simp [hq', m1, m2, t1, end_rt]
  · have e1 : walkW l k x = Rat.divInt (winsI x l k) (wholeI x l) := by unfold walkW; rw [if_neg hq]
    have e2 : walkE l k x = (2 * l * walkW l k x - ((l + k : Int) : Rat)) * Rat.divInt x.den (x.num - (x.den - x.num)) := by unfold walkE; rw [if_neg hq]
    rw [e2, e1]
    unfold winsI wholeI
    rw [← hp, ← hd] at hq ⊢
    obtain ⟨q, hqe⟩ : ∃ q, q = (d : Int) - p := ⟨_, rfl⟩
    rw [← hqe] at hq ⊢
    have q0 : 0 ≤ q ∧ q ≤ d := by omega
    have dn : wDn l k ≤ 6 ∧ ((wDn l k : Nat) : Int) = l - k := by unfold wDn; omega
    have un : wUp l k ≤ 6 ∧ ((wUp l k : Nat) : Int) = l + k := by unfold wUp; omega
    have ud : wDn l k + wUp l k = 2 * l := by unfold wDn wUp; omega
    have up1 : 1 ≤ wUp l k := by unfold wUp; omega
    have P := fun n (hn : n ≤ 8) => sm_pow (n := n) dp hD hx.1 hx.2 hn
    have Q := fun n (hn : n ≤ 8) => sm_pow (n := n) dp hD q0.1 q0.2 hn
    have sp : Sm p := by have := P 1 (by omega); rw [Int.pow_one] at this; exact Sm.of (by omega)
    have sq : Sm q := by have := Q 1 (by omega); rw [Int.pow_one] at this; exact Sm.of (by omega)
    have w1 := fun n (hn : n ≤ 8) S => t_power (b := p) (n := n) (S := S) (by omega) (fun k hk => Sm.of (by have := P k (by omega); omega)) sp
    have w2 := fun n (hn : n ≤ 8) S => t_power (b := q) (n := n) (S := S) (by omega) (fun k hk => Sm.of (by have := Q k (by omega); omega)) sq
    have pw1 := fun S => w1 (wDn l k) (by omega) S
    have pw2 := fun S => w1 (wUp l k) (by omega) S
    have pw3 := fun S => w1 (2 * l) (by omega) S
    have pw4 := fun S => w2 (wUp l k) (by omega) S
    have pw5 := fun S => w2 (2 * l) (by omega) S
    rw [dn.2] at pw1
    rw [un.2] at pw2 pw4
    have cl : ((2 * l : Nat) : Int) = 2 * l := by omega
    rw [cl] at pw3 pw5
    have whne : p ^ (2 * l) - q ^ (2 * l) ≠ 0 := by
      rcases Int.lt_or_lt_of_ne hq with c | c
      · have := pow_lt hx.1 c (2 * l) (by omega); omega
      · have := pow_lt q0.1 c (2 * l) (by omega); omega
    have whle : (p ^ (2 * l) - q ^ (2 * l)).natAbs < B9 := by
      have := P (2 * l) (by omega); have := Q (2 * l) (by omega); omega
    have b1 := P (wDn l k) (by omega)
    have b2 := P (wUp l k) (by omega)
    have b3 := Q (wUp l k) (by omega)
    have b5 := P (2 * l) (by omega)
    have b6 := Q (2 * l) (by omega)
    obtain ⟨A, hA⟩ : ∃ A, A = p ^ wDn l k := ⟨_, rfl⟩
    obtain ⟨U, hU⟩ : ∃ U, U = p ^ wUp l k := ⟨_, rfl⟩
    obtain ⟨V, hV⟩ : ∃ V, V = q ^ wUp l k := ⟨_, rfl⟩
    obtain ⟨W1, hW1⟩ : ∃ W, W = p ^ (2 * l) := ⟨_, rfl⟩
    obtain ⟨W2, hW2⟩ : ∃ W, W = q ^ (2 * l) := ⟨_, rfl⟩
    rw [← hA] at b1 pw1 ⊢
    rw [← hU] at b2 pw2 ⊢
    rw [← hV] at b3 pw4 ⊢
    rw [← hW1] at whne whle b5 pw3 ⊢
    rw [← hW2] at whne whle b6 pw5 ⊢
    have m1 : ∀ S, oMul false (.int 2) (.int l) S = some (.int (2 * l), S) := fun S => mul_B4 (by unfold Sm; omega) (by unfold Sm; omega)
    have m2 : ∀ S, oMul false (.int A) (.int (U - V)) S = some (.int (A * (U - V)), S) := fun S => mul_B4 (Sm.of (by omega)) (Sm.of (by omega))
    have tw := fun S => t_lowest (n := A * (U - V)) (d := W1 - W2) (S := S) whne (Nat.lt_of_lt_of_le whle b4) (Nat.lt_of_le_of_lt (gcd_le_abs whne) whle)
    obtain ⟨w, hw⟩ : ∃ w, w = Rat.divInt (A * (U - V)) (W1 - W2) := ⟨_, rfl⟩
    have wn : w.num.natAbs ≤ B9 * B9 := by
      rw [hw]
      refine Nat.le_trans num_le ?_
      rw [Int.natAbs_mul]
      exact Nat.mul_le_mul (by omega) (by omega)
    have wd : w.den < B9 := by rw [hw]; exact Nat.lt_of_le_of_lt (den_le whne) whle
    have wdp := w.den_pos
    rw [← hw] at tw ⊢
    unfold frD at tw
    have sw : Sm w.num := Sm.of2 (a := B9) (b := B9) (by omega) (Nat.le_refl _) (Nat.le_refl _)
    have m3 : ∀ S, oMul false (.int (2 * l)) (.int w.num) S = some (.int (2 * l * w.num), S) := fun S => mul_B4 (by unfold Sm; omega) sw
    have s2 : Sm (2 * l * w.num) := by
      refine Sm.of2 (a := B9) (b := B9) ?_ (Nat.le_refl _) (Nat.le_refl _)
      rw [Int.natAbs_mul]
      have : (2 * (l : Int)).natAbs ≤ 6 := by omega
      calc (2 * (l : Int)).natAbs * w.num.natAbs ≤ 6 * (B9 * B9) := Nat.mul_le_mul this wn
        _ ≤ B9 * B9 * 1000 := by omega
    have sd : Sm (w.den : Int) := Sm.of (by omega)
    have ta := fun S => t_addedR (a := 2 * l * w.num) (b := w.den) (c := -(l + k)) (d := 1) (S := S) s2 sd (by unfold Sm; omega) (by unfold Sm; omega) (by omega) (by omega)
    have eu := eu_eq (w := w) (l := l) (k := k)
    rw [eu] at ta
    obtain ⟨u, hu⟩ : ∃ u, u = 2 * l * w - ((l + k : Int) : Rat) := ⟨_, rfl⟩
    rw [← hu] at ta ⊢
    have ne : p - q ≠ 0 := by omega
    have td := fun S => t_lowest (n := (d : Int)) (d := p - q) (S := S) ne (by have := P 1 (by omega); have := Q 1 (by omega); rw [Int.pow_one] at *; omega) (Nat.lt_of_le_of_lt (gcd_le_abs ne) (by have := P 1 (by omega); have := Q 1 (by omega); rw [Int.pow_one] at *; omega))
    obtain ⟨z, hz⟩ : ∃ z, z = Rat.divInt d (p - q) := ⟨_, rfl⟩
    rw [← hz] at td ⊢
    have zn : z.num.natAbs < B9 := by
      rw [hz]; refine Nat.lt_of_le_of_lt num_le ?_
      have := sm_pow (n := 1) (a := d) dp hD (by omega) (by omega) (by omega); rw [Int.pow_one] at this; omega
    have zd : z.den ≤ d := by rw [hz]; refine Nat.le_trans (den_le ne) ?_; omega
    have wd6 : w.den ≤ d ^ 6 := by
      rw [hw]; refine Nat.le_trans (den_le whne) ?_
      have h1 := (pow_mono hx.1 hx.2 (2 * l)).2
      have h2 := (pow_mono q0.1 q0.2 (2 * l)).2
      have h3 : (d : Int) ^ (2 * l) ≤ (d : Int) ^ 6 := pow_exp (by omega) (by omega)
      rw [← hW1] at h1
      rw [← hW2] at h2
      have h4 : ((d ^ 6 : Nat) : Int) = (d : Int) ^ 6 := Int.natCast_pow ..
      omega
    have udw : u.den ≤ w.den := by
      rw [hu, ← eu_eq]
      refine Nat.le_trans (den_le (by omega)) ?_
      rw [Int.mul_one]; omega
    have uz : u.den * z.den < B9 := by
      have h1 : u.den * z.den ≤ d ^ 6 * d := Nat.mul_le_mul (Nat.le_trans udw wd6) zd
      have h2 : d ^ 6 * d ≤ d ^ 8 := by
        rw [← Nat.pow_succ]; exact Nat.pow_le_pow_right dp (by omega)
      omega
    have un' : Sm u.num := by
      rw [hu, ← eu_eq]
      refine Sm.of2 (a := B9) (b := B9) ?_ (Nat.le_refl _) (Nat.le_refl _)
      refine Nat.le_trans num_le ?_
      have h1 : (2 * l * w.num * 1 : Int).natAbs ≤ 6 * (B9 * B9) := by
        rw [Int.mul_one, Int.natAbs_mul]
        exact Nat.mul_le_mul (by omega) wn
      have h2 : (-(l + k) * w.den : Int).natAbs ≤ 6 * B9 := by
        rw [Int.natAbs_mul]
        exact Nat.mul_le_mul (by omega) (by omega)
      have h3 : B9 * 1 ≤ B9 * B9 := Nat.mul_le_mul_left _ (by omega)
      omega
    have tt := fun S => t_times (r := u) (s := z) (S := S) un' (Sm.of zn) uz
    unfold frD at ta td tt
    have hq' : (p = q) ↔ False := iff_false_intro hq
    simp [hq', pw1, pw2, pw3, pw4, pw5, m1, m2, m3, tw, ta, td, tt, ← hp, ← hd, ← hqe, end_rt]

end Sf
end

section
set_option Elab.async false
set_option maxRecDepth 100000
set_option linter.all false
set_option maxHeartbeats 4000000
namespace Sf
open PySem L2
/-! the ends of a round -/
abbrev EnE := Pr × Int
def decE : D × D → EnE
  | (.tup [.int a, .int b], .int w) => ((a, b), w)
  | _ => ((0, 0), 0)
def encE (e : EnE) : D × D := (prD e.1, .int e.2)
def endsV (v : Lv) : List EnE := match f_ends_of [v.D] [] with
  | .ok _ [.dct _ kvs] => kvs.map decE
  | _ => []
def mostE (v : Lv) : Int := match endsV v with
  | [] => 0
  | e :: es => (es.map fun e => e.1.1 + e.1.2).foldl max (e.1.1 + e.1.2)
def runB (v : Lv) : Bool := match f_ends_of [v.D] [] with
  | .ok (.loc 0) [.dct false kvs] => dEqs (kvs.map (·.1)) ((kvs.map decE).map fun e => prD e.1) && dEqs (kvs.map (·.2)) ((kvs.map decE).map fun e => .int e.2)
  | _ => false
def isI (o : Option D) (i : Int) : Bool := match o with
  | some (.int j) => decide (i = j)
  | _ => false
/-- all that is asked of a level, by the kernel -/
def eokB (v : Lv) : Bool := runB v && !(endsV v).isEmpty && Nat.ble (endsV v).length 100 && decide (mostE v ≤ 30) && decide (1 ≤ v.l) && decide (v.l ≤ 3) &&
  (endsV v).all fun e => decide (0 ≤ e.1.1) && decide (0 ≤ e.1.2) && decide (e.1.1 + e.1.2 ≤ mostE v) && decide (1 ≤ e.2) && decide (e.2 ≤ 1000000) && keyOk (prD e.1) && isI (getX ((endsV v).map encE) (prD e.1)) e.2 &&
    ((rwM v e.1).isSome || (decide (-v.l < e.1.1 - e.1.2) && decide (e.1.1 - e.1.2 < v.l) && decide (1 < v.l) && v.c.isNone))
structure EOk (v : Lv) : Prop where
  run : f_ends_of [v.D] [] = .ok (.loc 0) [.dct false ((endsV v).map encE)]
  ne : endsV v ≠ []
  len : (endsV v).length ≤ 100
  most : mostE v ≤ 30
  l : 1 ≤ v.l ∧ v.l ≤ 3
  nn : ∀ e ∈ endsV v, 0 ≤ e.1.1 ∧ 0 ≤ e.1.2 ∧ e.1.1 + e.1.2 ≤ mostE v
  ways : ∀ e ∈ endsV v, 1 ≤ e.2 ∧ e.2 ≤ 1000000
  key : ∀ e ∈ endsV v, keyOk (prD e.1) = true
  get : ∀ e ∈ endsV v, getX ((endsV v).map encE) (prD e.1) = some (.int e.2)
  open' : ∀ e ∈ endsV v, rwM v e.1 = none → -v.l < e.1.1 - e.1.2 ∧ e.1.1 - e.1.2 < v.l ∧ 1 < v.l ∧ v.c = none
theorem zip_map (kvs : List (D × D)) (h1 : kvs.map (·.1) = (kvs.map decE).map fun e => prD e.1) (h2 : kvs.map (·.2) = (kvs.map decE).map fun e => .int e.2) : kvs = (kvs.map decE).map encE := by
  induction kvs with
  | nil => rfl
  | cons a kvs ih =>
    simp only [List.map_cons, List.cons.injEq] at h1 h2
    rw [List.map_cons, List.map_cons, ← ih h1.2 h2.2]
    congr 1
    obtain ⟨k, w⟩ := a
    unfold encE
    rw [← h1.1, ← h2.1]
theorem EOk.of {v : Lv} (h : eokB v = true) : EOk v := by
  unfold eokB at h
  simp only [Bool.and_eq_true] at h
  obtain ⟨⟨⟨⟨⟨⟨h1, h2⟩, h3⟩, h4⟩, h5⟩, h6⟩, h7⟩ := h
  have h7 := fun e he => List.all_eq_true.mp h7 e he
  simp only [Bool.and_eq_true] at h7
  refine ⟨?_, by simpa using h2, Nat.le_of_ble_eq_true h3, of_decide_eq_true h4, ⟨of_decide_eq_true h5, of_decide_eq_true h6⟩, fun e he => ?_, fun e he => ?_, fun e he => (h7 e he).1.1.2, fun e he => ?_, fun e he hr => ?_⟩
  · unfold endsV
    unfold runB at h1
    cases hr : f_ends_of [v.D] [] with
    | ok d S =>
      rw [hr] at h1
      split at h1
      · rename_i kvs heq
        cases heq
        rw [Bool.and_eq_true] at h1
        have := zip_map kvs (dEqs_ok _ _ h1.1) (dEqs_ok _ _ h1.2)
        show Out.ok (D.loc 0) [Ob.dct false kvs] = .ok (.loc 0) [.dct false ((kvs.map decE).map encE)]
        rw [← this]
      · cases h1
    | exc => rw [hr] at h1; cases h1
    | bad => rw [hr] at h1; cases h1
  · have := (h7 e he).1.1.1.1.1
    exact ⟨of_decide_eq_true this.1.1, of_decide_eq_true this.1.2, of_decide_eq_true this.2⟩
  · exact ⟨of_decide_eq_true (h7 e he).1.1.1.1.2, of_decide_eq_true (h7 e he).1.1.1.2⟩
  · have := (h7 e he).1.2
    unfold isI at this
    split at this
    · rename_i j hj
      rw [hj, of_decide_eq_true this]
    · cases this
  · have := (h7 e he).2
    rw [hr] at this
    simp at this
    exact ⟨this.1.1.1, this.1.1.2, this.1.2, this.2⟩
theorem eok_all {v : Lv} (hv : v ∈ lvAll) : EOk v := EOk.of (all_ok (p := eokB) (by decide +kernel) hv)

end Sf
end

section
set_option Elab.async false
set_option maxRecDepth 100000
set_option linter.all false
set_option maxHeartbeats 4000000
namespace Sf
open PySem L2
/-! plain: denominators; sums of geometric rows -/
theorem den_dvd {r : Rat} {M : Nat} (hM : 0 < M) : r.den ∣ M ↔ ∃ k : Int, r * (M : Rat) = (k : Rat) := by
  constructor
  · rintro ⟨c, rfl⟩
    refine ⟨r.num * c, ?_⟩
    rw [Rat.intCast_mul, rat_self, Rat.natCast_mul, Rat.intCast_natCast, Rat.mul_assoc]
  · rintro ⟨k, h⟩
    have h0 : (M : Rat) ≠ 0 := by rw [Ne, Rat.natCast_eq_zero_iff]; omega
    have : r = Rat.divInt k M := by
      rw [Rat.divInt_eq_div, ← h, Rat.intCast_natCast]
      generalize (M : Rat) = m at *
      grind
    rw [this, Rat.den_divInt, if_neg (by omega)]
    rw [Int.natAbs_natCast]
    exact Nat.div_dvd_of_dvd (Nat.gcd_dvd_left ..)
theorem dvd_add {r s : Rat} {M : Nat} (hM : 0 < M) (h : r.den ∣ M) (h' : s.den ∣ M) : (r + s).den ∣ M := by
  rw [den_dvd hM] at *
  obtain ⟨a, ha⟩ := h
  obtain ⟨b, hb⟩ := h'
  exact ⟨a + b, by rw [Rat.intCast_add, ← ha, ← hb, Rat.add_mul]⟩
theorem dvd_mul {r s : Rat} {M N : Nat} (hM : 0 < M) (hN : 0 < N) (h : r.den ∣ M) (h' : s.den ∣ N) : (r * s).den ∣ M * N := by
  rw [den_dvd hM] at h
  rw [den_dvd hN] at h'
  rw [den_dvd (Nat.mul_pos hM hN)]
  obtain ⟨a, ha⟩ := h
  obtain ⟨b, hb⟩ := h'
  refine ⟨a * b, ?_⟩
  rw [Rat.intCast_mul, ← ha, ← hb, Rat.natCast_mul]
  generalize (M : Rat) = m
  generalize (N : Rat) = n
  grind
theorem dvd_divInt {n : Int} {M : Nat} (hM : 0 < M) : (Rat.divInt n M).den ∣ M := by
  rw [Rat.den_divInt, if_neg (by omega), Int.natAbs_natCast]
  exact Nat.div_dvd_of_dvd (Nat.gcd_dvd_left ..)
def gI : Nat → Int → Int → Int
  | 0, _, _ => 0
  | n + 1, p, q => p * gI n p q + q ^ n
theorem gI_geo (p q : Int) : ∀ n : Nat, (p - q) * gI n p q = p ^ n - q ^ n
  | 0 => by simp [gI]
  | n + 1 => by
    have ih := gI_geo p q n
    unfold gI
    rw [Int.pow_succ, Int.pow_succ]
    have e : (p - q) * (p * gI n p q + q ^ n) = p * ((p - q) * gI n p q) + (p - q) * q ^ n := by grind
    rw [e, ih]
    grind
theorem gI_nn {p q : Int} (hp : 0 ≤ p) (hq : 0 ≤ q) : ∀ n : Nat, 0 ≤ gI n p q
  | 0 => by simp [gI]
  | n + 1 => by
    unfold gI
    have := Int.mul_nonneg hp (gI_nn hp hq n)
    have : 0 ≤ q ^ n := Int.pow_nonneg hq
    omega
theorem gI_pos {p q : Int} (hp : 0 ≤ p) (hq : 0 ≤ q) (h : 0 < p + q) : ∀ n : Nat, 0 < gI (n + 1) p q
  | 0 => by simp [gI]
  | n + 1 => by
    unfold gI
    have h1 := gI_pos hp hq h n
    by_cases c : q = 0
    · have : 0 < p := by omega
      have := Int.mul_pos this h1
      have : 0 ≤ q ^ (n + 1) := Int.pow_nonneg hq
      omega
    · have := Int.mul_nonneg hp (Int.le_of_lt h1)
      have := Int.pow_pos (n := q) (m := n + 1) (by omega)
      omega
theorem gI_le {p q : Int} (hp : 0 ≤ p) (hq : 0 ≤ q) : ∀ n : Nat, gI (n + 1) p q ≤ (p + q) ^ n
  | 0 => by simp [gI]
  | n + 1 => by
    have ih := gI_le hp hq n
    have e : gI (n + 2) p q = p * gI (n + 1) p q + q ^ n * q := by
      show p * gI (n + 1) p q + q ^ (n + 1) = _
      rw [Int.pow_succ]
    rw [e, Int.pow_succ]
    have h1 := Int.mul_le_mul_of_nonneg_left ih hp
    have h2 := (pow_mono hq (show q ≤ p + q by omega) n).2
    have h3 := Int.mul_le_mul_of_nonneg_right h2 hq
    have : (p + q) ^ n * (p + q) = p * (p + q) ^ n + (p + q) ^ n * q := by grind
    omega
theorem gI_add (p q : Int) (U : Nat) : ∀ D : Nat, gI (D + U) p q = p ^ D * gI U p q + q ^ U * gI D p q
  | 0 => by simp [gI]
  | D + 1 => by
    have ih := gI_add p q U D
    have e : D + 1 + U = (D + U) + 1 := by omega
    rw [e]
    show p * gI (D + U) p q + q ^ (D + U) = p ^ (D + 1) * gI U p q + q ^ U * (p * gI D p q + q ^ D)
    rw [ih, Int.pow_succ, Int.pow_add]
    grind
theorem divInt_cancel {a b c : Int} (h : c ≠ 0) : Rat.divInt (c * a) (c * b) = Rat.divInt a b := Rat.divInt_mul_left h
/-- the chance of a walk, one form for all chances -/
theorem walkW_eq {x : Rat} {l : Nat} {k : Int} (hx : 0 ≤ x.num ∧ x.num ≤ x.den) (hl : 1 ≤ l) (hk : -l < k ∧ k < l) :
    walkW l k x = Rat.divInt (x.num ^ wDn l k * gI (wUp l k) x.num (x.den - x.num)) (gI (2 * l) x.num (x.den - x.num)) := by
  have dp := x.den_pos
  unfold walkW
  by_cases h : x.num = x.den - x.num
  · rw [if_pos h]
    have hc := x.reduced
    have e1 : x.num.natAbs = 1 := by
      unfold Nat.Coprime at hc
      have : x.den = 2 * x.num.natAbs := by omega
      rw [this, Nat.gcd_eq_left ⟨2, by omega⟩] at hc
      exact hc
    have e2 : x.num = 1 := by omega
    rw [← h, e2]
    have g1 : ∀ n : Nat, gI n 1 1 = n := by
      intro n
      induction n with
      | zero => rfl
      | succ n ih => unfold gI; rw [ih, Int.one_pow]; simp
    rw [g1, g1]
    simp only [Int.one_pow, Int.one_mul]
    have : ((wUp l k : Nat) : Int) = l + k := by unfold wUp; omega
    rw [this]
    congr 1
  · rw [if_neg h]
    unfold winsI wholeI
    rw [← gI_geo, ← gI_geo]
    have : x.num ^ wDn l k * ((x.num - (x.den - x.num)) * gI (wUp l k) x.num (x.den - x.num)) = (x.num - (x.den - x.num)) * (x.num ^ wDn l k * gI (wUp l k) x.num (x.den - x.num)) := by
      generalize x.num ^ wDn l k = A
      generalize gI (wUp l k) x.num (x.den - x.num) = B
      generalize x.num - (x.den - x.num) = C
      grind
    rw [this]
    exact divInt_cancel (by omega)

end Sf
end

section
set_option Elab.async false
set_option maxRecDepth 100000
set_option linter.all false
set_option maxHeartbeats 4000000
namespace Sf
open PySem L2
/-! round_of: the first loop -/
def getR (r : List (Int × Int)) (k : Int) : Option Int := (r.find? fun p => decide (p.1 = k)).map (·.2)
def putR (r : List (Int × Int)) (k w : Int) : List (Int × Int) := bif (getR r k).isSome then r.map (fun p => bif decide (p.1 = k) then (p.1, w) else p) else r ++ [(k, w)]
def encR (r : List (Int × Int)) : List (Int × D) := r.map fun p => (p.1, .int p.2)
theorem getI_enc (r : List (Int × Int)) (k : Int) : getI (encR r) k = (getR r k).map D.int := by
  unfold getI getR encR
  induction r with
  | nil => rfl
  | cons a r ih =>
    rw [List.map_cons, List.find?_cons, List.find?_cons]
    cases hk : decide (a.1 = k) with
    | true => simp only [hk]; rfl
    | false => simp only [hk]; exact ih
theorem putI_enc (r : List (Int × Int)) (k w : Int) : putI (encR r) k (.int w) = encR (putR r k w) := by
  unfold putI putR
  rw [getI_enc]
  cases h : getR r k with
  | none => simp [encR]
  | some i =>
    simp only [Option.map_some, Option.isSome_some, cond_true]
    unfold encR
    rw [List.map_map, List.map_map]
    apply List.map_congr_left
    intro a _
    simp only [Function.comp]
    cases decide (a.1 = k) <;> rfl
def SmK (n : Int) (k : Nat) : Prop := n.natAbs ≤ B9 ^ k
theorem SmK.mul {a b : Int} {i j : Nat} (h : SmK a i) (h' : SmK b j) : SmK (a * b) (i + j) := by
  unfold SmK at *
  rw [Int.natAbs_mul, Nat.pow_add]
  exact Nat.mul_le_mul h h'
theorem SmK.mono {a : Int} {i j : Nat} (h : SmK a i) (hij : i ≤ j) : SmK a j := by
  unfold SmK at *
  exact Nat.le_trans h (Nat.pow_le_pow_right (by have := B9_pos; omega) hij)
theorem SmK.add {a b : Int} {i : Nat} (h : SmK a i) (h' : SmK b i) : SmK (a + b) (i + 1) := by
  unfold SmK at *
  have : B9 ^ i * 2 ≤ B9 ^ i * B9 := Nat.mul_le_mul_left _ (by have := B9_pos; omega)
  rw [Nat.pow_succ]; omega
theorem SmK.sm {a : Int} {i : Nat} (h : SmK a i) (hi : i ≤ 40) : Sm a := by
  have h := h.mono hi
  unfold SmK Sm at *
  have : B9 ^ 40 < B5 := by
    unfold B9 B5
    rw [← Nat.pow_mul]
    exact Nat.pow_lt_pow_right (by omega) (by omega)
  omega
theorem SmK.lit {a : Int} (h : a.natAbs ≤ 1000000) : SmK a 1 := by
  unfold SmK
  have : 1000000 < B9 := Nat.lt_of_lt_of_le (show 1000000 < 2 ^ 20 by decide) (Nat.pow_le_pow_right (by omega) (by omega))
  rw [Nat.pow_one]; omega
theorem SmK.of {a : Int} (h : a.natAbs < B9) : SmK a 1 := by unfold SmK; rw [Nat.pow_one]; omega
def wtE (p q d most : Int) (e : EnE) : Int := e.2 * p ^ e.1.1.toNat * q ^ e.1.2.toNat * d ^ (most - (e.1.1 + e.1.2)).toNat
structure RS where
  won : Int
  uni : Int
  rest : List (Int × Int)
def stepR (v : Lv) (p q d most : Int) (s : RS) (e : EnE) : RS := match rwM v e.1 with
  | none => ⟨s.won, s.uni + wtE p q d most e * (e.1.1 + e.1.2), putR s.rest (e.1.1 - e.1.2) ((getR s.rest (e.1.1 - e.1.2)).getD 0 + wtE p q d most e)⟩
  | some k => ⟨if k = 0 then s.won + wtE p q d most e else s.won, s.uni + wtE p q d most e * (e.1.1 + e.1.2), s.rest⟩
def rndB : FS := (sSeq (sAsg 9 (fOp2 (oMul false) (fOp2 (oMul false) (fOp2 (oMul false) (fOp2 oGetX (fVar 2) (fVar 3)) (fCall (pureF f_power) (fCons (fOp2 oIx (fVar 1) (fCon (.int 0))) (fCons (fOp2 oIx (fVar 3) (fCon (.int 0))) (fNil))))) (fCall (pureF f_power) (fCons (fVar 5) (fCons (fOp2 oIx (fVar 3) (fCon (.int 1))) (fNil))))) (fCall (pureF f_power) (fCons (fOp2 oIx (fVar 1) (fCon (.int 1))) (fCons (fOp2 (oSub) (fVar 4) (fOpN oSum (fCons (fVar 3) (fNil)))) (fNil))))))
    (sSeq (sAug 7 oAddI (fOp2 (oMul false) (fVar 9) (fOpN oSum (fCons (fVar 3) (fNil)))))
    (sSeq (sAsg 10 (fCall (pureF f_round_winner) (fCons (fVar 0) (fCons (fVar 3) (fNil)))))
    (sIf (tVal (fOp2 oIs (fVar 10) (fCon .non))) (sAsgX (fOp2 (oAdd false) (fGetX (fVar 8) (fOp2 (oSub) (fOp2 oIx (fVar 3) (fCon (.int 0))) (fOp2 oIx (fVar 3) (fCon (.int 1)))) (fCon (.int 0))) (fVar 9)) (fVar 8) (fOp2 (oSub) (fOp2 oIx (fVar 3) (fCon (.int 0))) (fOp2 oIx (fVar 3) (fCon (.int 1))))) (sIf (tVal (fOp2 oEq (fVar 10) (fCon (.int 0)))) (sAug 6 oAddI (fVar 9)) (sSkip))))))
/-- what is asked of a chance for a level -/
structure COk (v : Lv) (x : Rat) : Prop where
  nn : 0 ≤ x.num
  le : x.num ≤ x.den
  d1 : x.den ^ (mostE v).toNat < B9
  d2 : v.c = none → 1 < v.l → x.den ^ (2 * ((mostE v).toNat + 6)) < B9
theorem sum2 {a b : Int} {S : Sto} : oSum [.tup [.int a, .int b]] S = some (.int (a + b), S) := by
  show some (D.int (List.sum [a, b]), S) = _
  simp
theorem t_rndB {v : Lv} (hv : EOk v) {x : Rat} (hx : COk v x) {s : RS} {e : EnE} (he : e ∈ endsV v) (hr : s.rest.length ≤ 1000) {x3 x9 x10 x11 x12 x13 x14 x15 : D} :
    ∃ y9 y10, rndB [v.D, frD x, .loc 0, prD e.1, .int (mostE v), .int (x.den - x.num), .int s.won, .int s.uni, .loc 1, x9, x10, x11, x12, x13, x14, x15] [.dct true ((endsV v).map encE), .dki false (encR s.rest)] =
      .nx [v.D, frD x, .loc 0, prD e.1, .int (mostE v), .int (x.den - x.num), .int (stepR v x.num (x.den - x.num) x.den (mostE v) s e).won, .int (stepR v x.num (x.den - x.num) x.den (mostE v) s e).uni, .loc 1, y9, y10, x11, x12, x13, x14, x15]
        [.dct true ((endsV v).map encE), .dki false (encR (stepR v x.num (x.den - x.num) x.den (mostE v) s e).rest)] := by
  obtain ⟨n1, n2, n3⟩ := hv.nn e he
  obtain ⟨w1, w2⟩ := hv.ways e he
  have hk := hv.key e he
  have hg := hv.get e he
  have hm := hv.most
  have dp := x.den_pos
  obtain ⟨⟨a, b⟩, w⟩ := e
  simp only at n1 n2 n3 w1 w2 hk hg
  obtain ⟨p, hp⟩ : ∃ p, p = x.num := ⟨_, rfl⟩
  obtain ⟨d, hd⟩ : ∃ d, d = x.den := ⟨_, rfl⟩
  obtain ⟨q, hq⟩ : ∃ q, q = (x.den : Int) - x.num := ⟨_, rfl⟩
  have h0 := hx.nn
  have h1 := hx.le
  have hD := hx.d1
  rw [← hq]
  unfold frD
  rw [← hp] at h0 h1 hq ⊢
  rw [← hd] at h1 hD dp hq ⊢
  have q0 : 0 ≤ q ∧ q ≤ d := by omega
  have P := fun n (hn : n ≤ (mostE v).toNat) => sm_pow (n := n) dp hD h0 h1 hn
  have Q := fun n (hn : n ≤ (mostE v).toNat) => sm_pow (n := n) dp hD q0.1 q0.2 hn
  have R := fun n (hn : n ≤ (mostE v).toNat) => sm_pow (n := n) (a := d) dp hD (by omega) (by omega) hn
  have b9 := B9_pos
  have sgl : ∀ z : Int, (∀ n, n ≤ (mostE v).toNat → 0 ≤ z ^ n ∧ z ^ n < B9) → z.natAbs ≤ d → ∀ (n : Nat) (S : Sto), n ≤ (mostE v).toNat → pureF f_power [.int z, .int n] S = .ok (.int (z ^ n)) S := fun z hz hzd n S hn => by
    by_cases h : (mostE v).toNat = 0
    · have : n = 0 := by omega
      subst this
      refine pure_eq rfl ?_
      unfold f_power fn b_power
      have hk0 : kRng1 [.int 0] = some [] := rfl
      simp [hk0, forL, end_rt]
    · refine t_power (by omega) (fun k hk => Sm.of (by have := hz k (by omega); omega)) ?_
      have := hz 1 (by omega)
      rw [Int.pow_one] at this
      exact Sm.of (by omega)
  have pw1 := fun S => sgl p P (by omega) a.toNat S (by omega)
  have pw2 := fun S => sgl q Q (by omega) b.toNat S (by omega)
  have pw3 := fun S => sgl d R (by omega) (mostE v - (a + b)).toNat S (by omega)
  rw [show ((a.toNat : Nat) : Int) = a by omega] at pw1
  rw [show ((b.toNat : Nat) : Int) = b by omega] at pw2
  rw [show (((mostE v - (a + b)).toNat : Nat) : Int) = mostE v - (a + b) by omega] at pw3
  have k1 : SmK w 1 := SmK.lit (by omega)
  have k2 : SmK (p ^ a.toNat) 1 := SmK.of (by have := P a.toNat (by omega); omega)
  have k3 : SmK (q ^ b.toNat) 1 := SmK.of (by have := Q b.toNat (by omega); omega)
  have k4 : SmK ((d : Int) ^ (mostE v - (a + b)).toNat) 1 := SmK.of (by have := R (mostE v - (a + b)).toNat (by omega); omega)
  have m1 := fun S => mul_B4 (m := false) (S := S) (k1.sm (by omega)) (k2.sm (by omega))
  have m2 := fun S => mul_B4 (m := false) (S := S) ((k1.mul k2).sm (by omega)) (k3.sm (by omega))
  have m3 := fun S => mul_B4 (m := false) (S := S) (((k1.mul k2).mul k3).sm (by omega)) (k4.sm (by omega))
  have k5 : SmK (a + b) 1 := SmK.lit (by omega)
  have m4 := fun S => mul_B4 (m := false) (S := S) ((((k1.mul k2).mul k3).mul k4).sm (by omega)) (k5.sm (by omega))
  have ew : wtE p q d (mostE v) ((a, b), w) = w * p ^ a.toNat * q ^ b.toNat * (d : Int) ^ (mostE v - (a + b)).toNat := rfl
  have er := fun S => t_rw (v := v) (p := (a, b)) (S := S)
  have ek : prD (a, b) = .tup [.int a, .int b] := rfl
  have gx : ∀ S2, oGetX (.loc 0) (.tup [.int a, .int b]) (.dct true ((endsV v).map encE) :: S2) = some (.int w, .dct true ((endsV v).map encE) :: S2) := fun S2 => by
    unfold oGetX findD
    simp only [List.getElem?_cons_zero]
    rw [ek] at hk hg
    rw [hk, hg]; rfl
  unfold stepR
  simp only [ew]
  have ev : v.D = .tup [.int v.t, .int v.l, oI v.c] := rfl
  rw [ek] at er ⊢
  rw [ev] at er ⊢
  obtain ⟨W, hW⟩ : ∃ W, W = w * p ^ a.toNat * q ^ b.toNat * (d : Int) ^ (mostE v - (a + b)).toNat := ⟨_, rfl⟩
  rw [← hW] at m3 m4 ⊢
  have fr : fitS (encR s.rest).length = true := nat_blt (by unfold encR; rw [List.length_map]; omega)
  cases hrw : rwM v (a, b) with
  | some k =>
    rw [hrw] at er
    simp only [oI_some] at er
    refine ⟨.int W, .int k, ?_⟩
    unfold rndB
    by_cases hk0 : k = 0
    · simp [gx, pw1, pw2, pw3, m1, m2, m3, m4, sum2, er, hk0]
    · simp [gx, pw1, pw2, pw3, m1, m2, m3, m4, sum2, er, hk0]
  | none =>
    rw [hrw] at er
    simp only [oI_none] at er
    refine ⟨.int W, .non, ?_⟩
    have gg : ∀ env, fGetX (fVar 8) (fOp2 (oSub) (fOp2 oIx (fVar 3) (fCon (.int 0))) (fOp2 oIx (fVar 3) (fCon (.int 1)))) (fCon (.int 0)) [.tup [.int v.t, .int v.l, oI v.c], .tup [.int p, .int d], .loc 0, .tup [.int a, .int b], .int (mostE v), .int q, .int s.won, env, .loc 1, .int W, .non, x11, x12, x13, x14, x15] [.dct true ((endsV v).map encE), .dki false (encR s.rest)] = .ok (.int ((getR s.rest (a - b)).getD 0)) [.dct true ((endsV v).map encE), .dki false (encR s.rest)] := fun env => by
      unfold fGetX
      simp only [x_var, List.getElem?_cons_succ, List.getElem?_cons_zero, x_bind]
      simp [isDct, findD, getI_enc]
    have ss : setX (.loc 1) (.int (a - b)) (.int ((getR s.rest (a - b)).getD 0 + W)) [.dct true ((endsV v).map encE), .dki false (encR s.rest)] = some [.dct true ((endsV v).map encE), .dki false (encR (putR s.rest (a - b) ((getR s.rest (a - b)).getD 0 + W)))] := by
      unfold setX
      simp only [List.getElem?_cons_succ, List.getElem?_cons_zero]
      rw [fr, putI_enc]; rfl
    have x_asgX : ∀ (fe fo fi : FE) env S, sAsgX fe fo fi env S = (fe env S).bindS fun x S1 => (fo env S1).bindS fun o S2 => (fi env S2).bindS fun i S3 => match setX o i x S3 with
      | some S4 => .nx env S4
      | none => .bad := fun _ _ _ _ _ => rfl
    unfold rndB
    simp [gx, pw1, pw2, pw3, m1, m2, m3, m4, sum2, er, x_asgX, gg, ss]

end Sf
end

section
set_option Elab.async false
set_option maxRecDepth 100000
set_option linter.all false
set_option maxHeartbeats 4000000
namespace Sf
open PySem L2
/-! plain: bounds of a walk -/
theorem SmK.mulOk {a b : Int} {i j : Nat} (h : SmK a i) (h' : SmK b j) (hij : i + j ≤ 110) : mulOk a b = true := by
  have l : ∀ (n : Int) (i : Nat), SmK n i → n.natAbs.log2 ≤ 9000 * i := fun n i h => by
    by_cases h0 : n.natAbs = 0
    · rw [h0, show Nat.log2 0 = 0 from rfl]; omega
    · unfold SmK at h
      have e : B9 ^ i = 2 ^ (9000 * i) := by unfold B9; rw [← Nat.pow_mul]
      rw [e] at h
      have : n.natAbs < 2 ^ (9000 * i + 1) := Nat.lt_of_le_of_lt h (Nat.pow_lt_pow_right (by omega) (by omega))
      have := (Nat.log2_lt h0).mpr this
      omega
  unfold Sf.mulOk
  have := nat_blt (show a.natAbs.log2 + b.natAbs.log2 < 1000000 by have := l a i h; have := l b j h'; omega)
  rw [this]; simp
theorem mul_K {m : Bool} {a b : Int} {i j : Nat} {S : Sto} (h : SmK a i) (h' : SmK b j) (hij : i + j ≤ 110) : oMul m (.int a) (.int b) S = some (.int (a * b), S) := by
  rw [x_mul, h.mulOk h' hij]; rfl
theorem SmK.den {d : Nat} (h : d < B9) : SmK (d : Int) 1 := SmK.of (by omega)
theorem t_timesK {r s : Rat} {S : Sto} {i j : Nat} (h1 : SmK r.num i) (h2 : SmK s.num j) (hij : i + j ≤ 110) (h : r.den * s.den < B9) : pureF f_times [frD r, frD s] S = .ok (frD (r * s)) S := by
  refine pure_eq rfl ?_
  have p1 := r.den_pos
  have p2 := s.den_pos
  have q1 : r.den ≤ r.den * s.den := Nat.le_mul_of_pos_right _ p2
  have q2 : s.den ≤ r.den * s.den := Nat.le_mul_of_pos_left _ p1
  have b := B9_B4
  have m1 := fun S => mul_K (m := false) (S := S) h1 h2 hij
  have m2 := fun S => mul_K (m := false) (S := S) (SmK.den (d := r.den) (by omega)) (SmK.den (d := s.den) (by omega)) (by omega)
  have hp : 0 < r.den * s.den := Nat.mul_pos p1 p2
  have e := fun S => t_lowest (n := r.num * s.num) (d := (r.den : Int) * s.den) (S := S) (by omega) (by rw [← Int.natCast_mul]; omega) (by rw [← Int.natCast_mul]; exact Nat.lt_of_le_of_lt (gcd_le_den hp) h)
  rw [rat_mul]
  unfold f_times fn b_times
  unfold frD at *
  simp [m1, m2, e, end_rt]
theorem t_addedK {r s : Rat} {S : Sto} {i j : Nat} (h1 : SmK r.num i) (h2 : SmK s.num j) (hi : i ≤ 100) (hj : j ≤ 100) (h : r.den * s.den < B9) : pureF f_added [frD r, frD s] S = .ok (frD (r + s)) S := by
  refine pure_eq rfl ?_
  have p1 := r.den_pos
  have p2 := s.den_pos
  have q1 : r.den ≤ r.den * s.den := Nat.le_mul_of_pos_right _ p2
  have q2 : s.den ≤ r.den * s.den := Nat.le_mul_of_pos_left _ p1
  have b := B9_B4
  have s1 := SmK.den (d := r.den) (by omega)
  have s2 := SmK.den (d := s.den) (by omega)
  have m1 := fun S => mul_K (m := false) (S := S) h1 s2 (by omega)
  have m2 := fun S => mul_K (m := false) (S := S) h2 s1 (by omega)
  have m3 := fun S => mul_K (m := false) (S := S) s1 s2 (by omega)
  have hp : 0 < r.den * s.den := Nat.mul_pos p1 p2
  have e := fun S => t_lowest (n := r.num * s.den + s.num * r.den) (d := (r.den : Int) * s.den) (S := S) (by omega) (by rw [← Int.natCast_mul]; omega) (by rw [← Int.natCast_mul]; exact Nat.lt_of_le_of_lt (gcd_le_den hp) h)
  rw [rat_add]
  unfold f_added fn b_added
  unfold frD at *
  simp [m1, m2, m3, e, end_rt]
theorem SmK.le {a b : Int} {i : Nat} (h : SmK a i) (hb : b.natAbs ≤ a.natAbs) : SmK b i := Nat.le_trans hb h
theorem num_mulK {r s : Rat} {i j : Nat} (h1 : SmK r.num i) (h2 : SmK s.num j) : SmK (r * s).num (i + j) := by
  rw [rat_mul]
  exact (h1.mul h2).le num_le
theorem num_addK {r s : Rat} {i : Nat} (h1 : SmK r.num i) (h2 : SmK s.num i) (hr : r.den < B9) (hs : s.den < B9) : SmK (r + s).num (i + 2) := by
  rw [rat_add]
  exact (((h1.mul (SmK.den hs))).add (h2.mul (SmK.den hr))).le num_le
def wG (x : Rat) (l : Nat) : Nat := (gI (2 * l) x.num (x.den - x.num)).toNat
def wN (x : Rat) : Nat := if x.num = x.den - x.num then 1 else (x.num - (x.den - x.num)).natAbs
theorem wG_ok {x : Rat} {l : Nat} (hx : 0 ≤ x.num ∧ x.num ≤ x.den) (hl : 1 ≤ l ∧ l ≤ 3) : 0 < wG x l ∧ ((wG x l : Nat) : Int) = gI (2 * l) x.num (x.den - x.num) ∧ wG x l ≤ x.den ^ 5 := by
  have dp := x.den_pos
  have e : 2 * l = (2 * l - 1) + 1 := by omega
  have h1 := gI_pos (p := x.num) (q := x.den - x.num) hx.1 (by omega) (by omega) (2 * l - 1)
  have h2 := gI_le (p := x.num) (q := x.den - x.num) hx.1 (by omega) (2 * l - 1)
  rw [← e] at h1 h2
  rw [show x.num + ((x.den : Int) - x.num) = x.den by omega] at h2
  have h3 : (x.den : Int) ^ (2 * l - 1) ≤ (x.den : Int) ^ 5 := pow_exp (by omega) (by omega)
  have h4 : ((x.den ^ 5 : Nat) : Int) = (x.den : Int) ^ 5 := Int.natCast_pow ..
  unfold wG
  omega
theorem wN_ok {x : Rat} (hx : 0 ≤ x.num ∧ x.num ≤ x.den) : 0 < wN x ∧ wN x ≤ x.den := by
  have dp := x.den_pos
  unfold wN
  split <;> omega
structure WOk (x : Rat) (l : Nat) (k : Int) : Prop where
  wd : (walkW l k x).den ∣ wG x l
  w0 : 0 ≤ (walkW l k x).num ∧ (walkW l k x).num ≤ (walkW l k x).den
  ed : (walkE l k x).den ∣ wG x l * wN x
  en : SmK (walkE l k x).num 4
theorem walk_ok {x : Rat} {l : Nat} {k : Int} (hx : 0 ≤ x.num ∧ x.num ≤ x.den) (hl : 1 ≤ l ∧ l ≤ 3) (hk : -l < k ∧ k < l) (hD : x.den ^ 8 < B9) : WOk x l k := by
  have dp := x.den_pos
  obtain ⟨g1, g2, g3⟩ := wG_ok hx hl
  have ew := walkW_eq hx hl.1 hk
  rw [← g2] at ew
  obtain ⟨n1, n2⟩ := wN_ok hx
  have hq0 : 0 ≤ (x.den : Int) - x.num := by omega
  have an : 0 ≤ x.num ^ wDn l k * gI (wUp l k) x.num (x.den - x.num) := Int.mul_nonneg (Int.pow_nonneg hx.1) (gI_nn hx.1 hq0 _)
  have al : x.num ^ wDn l k * gI (wUp l k) x.num (x.den - x.num) ≤ wG x l := by
    rw [g2]
    have e : 2 * l = wDn l k + wUp l k := by unfold wDn wUp; omega
    rw [e, gI_add]
    have : 0 ≤ (x.den - x.num) ^ wUp l k * gI (wDn l k) x.num (x.den - x.num) := Int.mul_nonneg (Int.pow_nonneg hq0) (gI_nn hx.1 hq0 _)
    omega
  have wd : (walkW l k x).den ∣ wG x l := by rw [ew]; exact dvd_divInt g1
  have gB : wG x l < B9 := by
    have : x.den ^ 5 ≤ x.den ^ 8 := Nat.pow_le_pow_right dp (by omega)
    omega
  have w0 : 0 ≤ (walkW l k x).num ∧ (walkW l k x).num ≤ (walkW l k x).den := by
    rw [ew]
    rw [Rat.num_divInt, Rat.den_divInt, if_neg (by omega), Int.sign_eq_one_of_pos (by omega), Int.one_mul, Int.natAbs_natCast]
    refine ⟨Int.ediv_nonneg an (by omega), ?_⟩
    rw [Int.natCast_ediv]
    exact Int.ediv_le_ediv (by have : 0 < Int.gcd ((wG x l : Nat) : Int) (x.num ^ wDn l k * gI (wUp l k) x.num (x.den - x.num)) := Int.gcd_pos_of_ne_zero_left _ (by omega); omega) al
  have wn : SmK (walkW l k x).num 1 := by
    refine SmK.of ?_
    have := Nat.le_of_dvd g1 wd
    omega
  refine ⟨wd, w0, ?_, ?_⟩
  · unfold walkE
    by_cases h : x.num = x.den - x.num
    · rw [if_pos h, Rat.den_intCast]; exact Nat.one_dvd _
    · rw [if_neg h]
      have hn : wN x = (x.num - (x.den - x.num)).natAbs := by unfold wN; rw [if_neg h]
      refine dvd_mul g1 n1 ?_ ?_
      · rw [den_dvd g1] at wd ⊢
        obtain ⟨a, ha⟩ := wd
        refine ⟨2 * l * a - (l + k) * wG x l, ?_⟩
        simp only [Rat.intCast_sub, Rat.intCast_mul, Rat.intCast_add, Rat.intCast_natCast, ← ha]
        have e2 : ((2 : Int) : Rat) = 2 := rfl
        rw [e2]
        generalize walkW l k x = w
        generalize ((wG x l : Nat) : Rat) = g
        grind
      · rw [Rat.den_divInt, if_neg (by omega), hn]
        exact Nat.div_dvd_of_dvd (Nat.gcd_dvd_left ..)
  · unfold walkE
    by_cases h : x.num = x.den - x.num
    · rw [if_pos h, Rat.num_intCast]
      refine (SmK.mul (SmK.lit ?_) (SmK.lit ?_)).mono (by omega) <;> omega
    · rw [if_neg h, ← eu_eq]
      have u3 : SmK (Rat.divInt (2 * l * (walkW l k x).num * 1 + -(l + k) * (walkW l k x).den) ((walkW l k x).den * 1)).num 3 := by
        refine SmK.le ?_ num_le
        rw [Int.mul_one]
        refine SmK.add (i := 2) ?_ ?_
        · exact SmK.mul (SmK.lit (by omega)) wn
        · exact SmK.mul (SmK.lit (by omega)) (SmK.den (by have := Nat.le_of_dvd g1 wd; omega))
      refine num_mulK (i := 3) (j := 1) u3 ?_
      refine SmK.le (a := (x.den : Int)) (SmK.den ?_) num_le
      have : x.den ^ 1 ≤ x.den ^ 8 := Nat.pow_le_pow_right dp (by omega)
      rw [Nat.pow_one] at this
      omega

end Sf
end

section
set_option Elab.async false
set_option maxRecDepth 100000
set_option linter.all false
set_option maxHeartbeats 4000000
namespace Sf
open PySem L2
/-! round_of: both loops -/
theorem getR_nodup : ∀ {r : List (Int × Int)}, (r.map (·.1)).Nodup → ∀ kw ∈ r, getR r kw.1 = some kw.2
  | [], _, kw, h => by simp at h
  | a :: r, hn, kw, h => by
    rw [List.map_cons, List.nodup_cons] at hn
    unfold getR
    rw [List.find?_cons]
    rcases List.mem_cons.mp h with rfl | h
    · simp
    · have : ¬ a.1 = kw.1 := fun e => hn.1 (by rw [e]; exact List.mem_map_of_mem h)
      rw [decide_eq_false this]
      exact getR_nodup hn.2 kw h
theorem getR_none {r : List (Int × Int)} {k : Int} (h : getR r k = none) : k ∉ r.map (·.1) := fun hk => by
  obtain ⟨a, ha, rfl⟩ := List.mem_map.mp hk
  unfold getR at h
  rw [Option.map_eq_none_iff, List.find?_eq_none] at h
  exact h a ha (by simp)
theorem getR_mem {r : List (Int × Int)} {k w : Int} (h : getR r k = some w) : (k, w) ∈ r := by
  unfold getR at h
  cases hf : r.find? (fun p => decide (p.1 = k)) with
  | none => rw [hf] at h; cases h
  | some a =>
    rw [hf] at h
    simp only [Option.map_some, Option.some.injEq] at h
    have h1 := List.find?_some hf
    have h2 := List.mem_of_find?_eq_some hf
    have : a = (k, w) := by rw [← of_decide_eq_true h1, ← h]
    rw [← this]; exact h2
theorem putR_keys {r : List (Int × Int)} {k w : Int} (h : (r.map (·.1)).Nodup) : ((putR r k w).map (·.1)).Nodup := by
  unfold putR
  cases hg : getR r k with
  | none =>
    simp only [Option.isSome_none, cond_false]
    rw [List.map_append, List.nodup_append]
    refine ⟨h, by simp, fun a ha b hb => ?_⟩
    simp at hb
    subst hb
    intro e; subst e
    exact getR_none hg ha
  | some i =>
    simp only [Option.isSome_some, cond_true]
    rw [List.map_map]
    have : ((fun x : Int × Int => x.1) ∘ fun p => bif decide (p.1 = k) then (p.1, w) else p) = fun x => x.1 := by
      funext p
      simp only [Function.comp]
      cases decide (p.1 = k) <;> rfl
    rw [this]; exact h
theorem mem_putR {r : List (Int × Int)} {k w : Int} {a : Int × Int} (h : a ∈ putR r k w) : a = (k, w) ∨ a ∈ r := by
  unfold putR at h
  cases hg : getR r k with
  | none =>
    rw [hg] at h
    simp only [Option.isSome_none, cond_false] at h
    rcases List.mem_append.mp h with h | h
    · exact .inr h
    · simp at h; exact .inl h
  | some i =>
    rw [hg] at h
    simp only [Option.isSome_some, cond_true] at h
    obtain ⟨p, hp, rfl⟩ := List.mem_map.mp h
    by_cases e : p.1 = k
    · rw [decide_eq_true e, cond_true]; exact .inl (by rw [e])
    · rw [decide_eq_false e, cond_false]; exact .inr hp
theorem putR_len {r : List (Int × Int)} {k w : Int} : (putR r k w).length ≤ r.length + 1 := by
  unfold putR
  cases getR r k <;> simp
/-- what holds of the numbers of the first loop -/
structure RInv (v : Lv) (n : Nat) (s : RS) : Prop where
  len : s.rest.length ≤ n
  nd : (s.rest.map (·.1)).Nodup
  key : ∀ kw ∈ s.rest, -v.l < kw.1 ∧ kw.1 < v.l ∧ 1 < v.l ∧ v.c = none
  val : ∀ kw ∈ s.rest, 0 ≤ kw.2 ∧ kw.2 ≤ n * (B9 : Int) ^ 4
  won : 0 ≤ s.won ∧ s.won ≤ n * (B9 : Int) ^ 4
  uni : 0 ≤ s.uni ∧ s.uni ≤ n * (B9 : Int) ^ 5
theorem wt_ok {v : Lv} (hv : EOk v) {x : Rat} (hx : COk v x) {e : EnE} (he : e ∈ endsV v) : 0 ≤ wtE x.num (x.den - x.num) x.den (mostE v) e ∧ SmK (wtE x.num (x.den - x.num) x.den (mostE v) e) 4 := by
  obtain ⟨n1, n2, n3⟩ := hv.nn e he
  obtain ⟨w1, w2⟩ := hv.ways e he
  have dp := x.den_pos
  have h0 := hx.nn
  have h1 := hx.le
  have P := sm_pow (n := e.1.1.toNat) dp hx.d1 h0 h1 (by omega)
  have Q := sm_pow (n := e.1.2.toNat) (a := x.den - x.num) dp hx.d1 (by omega) (by omega) (by omega)
  have R := sm_pow (n := (mostE v - (e.1.1 + e.1.2)).toNat) (a := x.den) dp hx.d1 (by omega) (by omega) (by omega)
  unfold wtE
  refine ⟨Int.mul_nonneg (Int.mul_nonneg (Int.mul_nonneg (by omega) P.1) Q.1) R.1, ?_⟩
  have k1 : SmK e.2 1 := SmK.lit (by omega)
  have k2 : SmK (x.num ^ e.1.1.toNat) 1 := SmK.of (by omega)
  have k3 : SmK ((x.den - x.num) ^ e.1.2.toNat) 1 := SmK.of (by omega)
  have k4 : SmK ((x.den : Int) ^ (mostE v - (e.1.1 + e.1.2)).toNat) 1 := SmK.of (by omega)
  exact ((k1.mul k2).mul k3).mul k4
theorem RInv.step {v : Lv} (hv : EOk v) {x : Rat} (hx : COk v x) {n : Nat} {s : RS} (h : RInv v n s) {e : EnE} (he : e ∈ endsV v) : RInv v (n + 1) (stepR v x.num (x.den - x.num) x.den (mostE v) s e) := by
  obtain ⟨w0, w4⟩ := wt_ok hv hx he
  obtain ⟨n1, n2, n3⟩ := hv.nn e he
  have hm := hv.most
  have b9 := B9_pos
  have w5 : wtE x.num (x.den - x.num) x.den (mostE v) e ≤ (B9 : Int) ^ 4 := by
    unfold SmK at w4
    have : ((B9 ^ 4 : Nat) : Int) = (B9 : Int) ^ 4 := Int.natCast_pow ..
    omega
  obtain ⟨w, hw⟩ : ∃ w, w = wtE x.num (x.den - x.num) x.den (mostE v) e := ⟨_, rfl⟩
  have wu : 0 ≤ w * (e.1.1 + e.1.2) ∧ w * (e.1.1 + e.1.2) ≤ (B9 : Int) ^ 5 := by
    rw [← hw] at w0 w5
    refine ⟨Int.mul_nonneg w0 (by omega), ?_⟩
    rw [show (5 : Nat) = 4 + 1 from rfl, Int.pow_succ]
    exact Int.mul_le_mul w5 (by omega) (by omega) (Int.pow_nonneg (by omega))
  unfold stepR
  rw [← hw] at w0 w5 ⊢
  have bp : (0 : Int) < (B9 : Int) ^ 4 := Int.pow_pos (by omega)
  have nb : ((n + 1 : Nat) : Int) * (B9 : Int) ^ 4 = n * (B9 : Int) ^ 4 + (B9 : Int) ^ 4 := by
    rw [Int.natCast_add, Int.add_mul]; simp
  have nb5 : ((n + 1 : Nat) : Int) * (B9 : Int) ^ 5 = n * (B9 : Int) ^ 5 + (B9 : Int) ^ 5 := by
    rw [Int.natCast_add, Int.add_mul]; simp
  have hwn := h.won
  have hun := h.uni
  cases hr : rwM v e.1 with
  | some k =>
    refine ⟨by have := h.len; simp only; omega, h.nd, h.key, fun kw hkw => ?_, ?_, ?_⟩
    · have := h.val kw hkw; rw [nb]; omega
    · simp only; rw [nb]; split <;> omega
    · simp only; rw [nb5]; omega
  | none =>
    have ho := hv.open' e he hr
    refine ⟨?_, putR_keys h.nd, fun kw hkw => ?_, fun kw hkw => ?_, ?_, ?_⟩
    · have := h.len; have := putR_len (r := s.rest) (k := e.1.1 - e.1.2) (w := (getR s.rest (e.1.1 - e.1.2)).getD 0 + w); simp only; omega
    · rcases mem_putR hkw with rfl | hk
      · exact ho
      · exact h.key kw hk
    · rcases mem_putR hkw with rfl | hk
      · simp only
        rw [nb]
        cases hg : getR s.rest (e.1.1 - e.1.2) with
        | none =>
          simp only [Option.getD_none]
          have : 0 ≤ (n : Int) * (B9 : Int) ^ 4 := Int.mul_nonneg (by omega) (by omega)
          omega
        | some i => have := h.val _ (getR_mem hg); simp only [Option.getD_some]; simp only at this; omega
      · have := h.val kw hk; rw [nb]; omega
    · simp only; rw [nb]; omega
    · simp only; rw [nb5]; omega
def foldRS (v : Lv) (x : Rat) (s : RS) (es : List EnE) : RS := es.foldl (stepR v x.num (x.den - x.num) x.den (mostE v)) s
theorem t_loop1 {v : Lv} (hv : EOk v) {x : Rat} (hx : COk v x) {x11 x12 x13 x14 x15 : D} : ∀ (es : List EnE) (s : RS) (n : Nat) (x3 x9 x10 : D), (∀ e ∈ es, e ∈ endsV v) → RInv v n s → n + es.length ≤ 100 →
    ∃ y3 y9 y10, forL (tgName 3) rndB (es.map fun e => prD e.1) [v.D, frD x, .loc 0, x3, .int (mostE v), .int (x.den - x.num), .int s.won, .int s.uni, .loc 1, x9, x10, x11, x12, x13, x14, x15] [.dct true ((endsV v).map encE), .dki false (encR s.rest)] =
      .nx [v.D, frD x, .loc 0, y3, .int (mostE v), .int (x.den - x.num), .int (foldRS v x s es).won, .int (foldRS v x s es).uni, .loc 1, y9, y10, x11, x12, x13, x14, x15] [.dct true ((endsV v).map encE), .dki false (encR (foldRS v x s es).rest)] ∧ RInv v (n + es.length) (foldRS v x s es)
  | [], s, n, x3, x9, x10, _, h, _ => ⟨x3, x9, x10, rfl, h⟩
  | e :: es, s, n, x3, x9, x10, hm, h, hn => by
    rw [List.length_cons] at hn
    have he := hm e (by simp)
    obtain ⟨y9, y10, e1⟩ := t_rndB hv hx (s := s) he (by have := h.len; omega) (x3 := x3) (x9 := x9) (x10 := x10) (x11 := x11) (x12 := x12) (x13 := x13) (x14 := x14) (x15 := x15)
    obtain ⟨z3, z9, z10, e2, i2⟩ := t_loop1 hv hx (x11 := x11) (x12 := x12) (x13 := x13) (x14 := x14) (x15 := x15) es _ (n + 1) (prD e.1) y9 y10 (fun e he => hm e (by simp [he])) (h.step hv hx he) (by omega)
    refine ⟨z3, z9, z10, ?_, by rw [List.length_cons, show n + (es.length + 1) = n + 1 + es.length by omega]; exact i2⟩
    rw [List.map_cons, forL_cons (env1 := [v.D, frD x, .loc 0, prD e.1, .int (mostE v), .int (x.den - x.num), .int s.won, .int s.uni, .loc 1, x9, x10, x11, x12, x13, x14, x15]) rfl, e1]
    exact e2
def whB (v : Lv) (x : Rat) : Nat := x.den ^ (mostE v).toNat
def stepF (v : Lv) (x : Rat) (f : Rat × Rat) (kw : Int × Int) : Rat × Rat := (f.1 + Rat.divInt kw.2 (whB v x) * walkW v.l.toNat kw.1 x, f.2 + Rat.divInt kw.2 (whB v x) * walkE v.l.toNat kw.1 x)
def rnd2B : FS := (sSeq (sPar2 14 15 (fCons (fCall (pureF f_lowest) (fCons (fOp2 oGetX (fVar 8) (fVar 13)) (fCons (fVar 11) (fNil)))) (fCons (fCall (pureF f_walk) (fCons (fVar 1) (fCons (fOp2 oIx (fVar 0) (fCon (.int 1))) (fCons (fVar 13) (fNil))))) (fNil))))
    (sAsg 12 (fTup (fCons (fCall (pureF f_added) (fCons (fOp2 oIx (fVar 12) (fCon (.int 0))) (fCons (fCall (pureF f_times) (fCons (fVar 14) (fCons (fOp2 oIx (fVar 15) (fCon (.int 0))) (fNil)))) (fNil)))) (fCons (fCall (pureF f_added) (fCons (fOp2 oIx (fVar 12) (fCon (.int 1))) (fCons (fCall (pureF f_times) (fCons (fVar 14) (fCons (fOp2 oIx (fVar 15) (fCon (.int 1))) (fNil)))) (fNil)))) (fNil))))))
structure FInv (v : Lv) (x : Rat) (i : Nat) (f : Rat × Rat) : Prop where
  d0 : f.1.den ∣ whB v x * wG x v.l.toNat
  d1 : f.2.den ∣ whB v x * (wG x v.l.toNat * wN x)
  n0 : SmK f.1.num i
  n1 : SmK f.2.num i
theorem pow_small {d K : Nat} (hd : 0 < d) (h : d ^ K < B9) {n : Nat} (hn : n ≤ K) : d ^ n < B9 := Nat.lt_of_le_of_lt (Nat.pow_le_pow_right hd hn) h
theorem FInv.step {v : Lv} (hv : EOk v) {x : Rat} (hx : COk v x) {i : Nat} {f : Rat × Rat} (h : FInv v x i f) (hi : 9 ≤ i ∧ i ≤ 80) {kw : Int × Int} (hk : -v.l < kw.1 ∧ kw.1 < v.l ∧ 1 < v.l ∧ v.c = none) (hw : 0 ≤ kw.2 ∧ kw.2 ≤ 100 * (B9 : Int) ^ 4)
    {vs : D} {x0 x2 x3 x4 x5 x6 x7 x9 x10 x14 x15 : D} {S2 : Ob} {r : List (Int × Int)} (hr : getR r kw.1 = some kw.2) :
    FInv v x (i + 2) (stepF v x f kw) ∧ ∃ y14 y15, rnd2B [v.D, frD x, x2, x3, x4, x5, x6, x7, .loc 1, x9, x10, .int (whB v x : Nat), .tup [frD f.1, frD f.2], .int kw.1, x14, x15] [S2, .dki true (encR r)] =
      .nx [v.D, frD x, x2, x3, x4, x5, x6, x7, .loc 1, x9, x10, .int (whB v x : Nat), .tup [frD (stepF v x f kw).1, frD (stepF v x f kw).2], .int kw.1, y14, y15] [S2, .dki true (encR r)] := by
  have dp := x.den_pos
  have hl := hv.l
  have hl' : ((v.l.toNat : Nat) : Int) = v.l := by omega
  have d2 := hx.d2 hk.2.2.2 hk.2.2.1
  have hxx : 0 ≤ x.num ∧ x.num ≤ x.den := ⟨hx.nn, hx.le⟩
  have hL : 1 ≤ v.l.toNat ∧ v.l.toNat ≤ 3 := by omega
  have hK : -((v.l.toNat : Nat) : Int) < kw.1 ∧ kw.1 < (v.l.toNat : Nat) := by omega
  have d8 : x.den ^ 8 < B9 := pow_small dp d2 (by omega)
  have W := walk_ok hxx hL hK d8
  obtain ⟨g1, g2, g3⟩ := wG_ok hxx hL
  obtain ⟨n1, n2⟩ := wN_ok hxx
  have wp : 0 < whB v x := Nat.pow_pos dp
  have wb : whB v x < B9 := pow_small dp d2 (by omega)
  have M0 : whB v x * wG x v.l.toNat ≤ x.den ^ ((mostE v).toNat + 5) := by rw [Nat.pow_add]; exact Nat.mul_le_mul_left _ g3
  have GN : wG x v.l.toNat * wN x ≤ x.den ^ 6 := by rw [show 6 = 5 + 1 from rfl, Nat.pow_succ]; exact Nat.mul_le_mul g3 n2
  have M1 : whB v x * (wG x v.l.toNat * wN x) ≤ x.den ^ ((mostE v).toNat + 6) := by rw [Nat.pow_add]; exact Nat.mul_le_mul_left _ GN
  have M0b : whB v x * wG x v.l.toNat ≤ x.den ^ ((mostE v).toNat + 6) := Nat.le_trans M0 (Nat.pow_le_pow_right dp (by omega))
  have sq : ∀ a b : Nat, a ≤ x.den ^ ((mostE v).toNat + 6) → b ≤ x.den ^ ((mostE v).toNat + 6) → a * b < B9 := fun a b ha hb => by
    have := Nat.mul_le_mul ha hb
    rw [← Nat.pow_add, show (mostE v).toNat + 6 + ((mostE v).toNat + 6) = 2 * ((mostE v).toNat + 6) by omega] at this
    omega
  have one : ∀ a : Nat, a ≤ x.den ^ ((mostE v).toNat + 6) → a < B9 := fun a ha => by have := pow_small dp d2 (n := (mostE v).toNat + 6) (by omega); omega
  -- the share
  obtain ⟨sh, hsh⟩ : ∃ sh, sh = Rat.divInt kw.2 (whB v x) := ⟨_, rfl⟩
  have shd : sh.den ∣ whB v x := by rw [hsh]; exact dvd_divInt wp
  have shn : SmK sh.num 5 := by
    rw [hsh]
    refine SmK.le (a := kw.2) ?_ num_le
    unfold SmK
    have : ((B9 ^ 4 : Nat) : Int) = (B9 : Int) ^ 4 := Int.natCast_pow ..
    have h2 : B9 ^ 4 * 100 ≤ B9 ^ 5 := by
      rw [show (5 : Nat) = 4 + 1 from rfl, Nat.pow_succ]
      exact Nat.mul_le_mul_left _ (by have := B9_pos; omega)
    omega
  have tl := fun S => t_lowest (n := kw.2) (d := whB v x) (S := S) (by omega) (by have := B9_B4; omega) (Nat.lt_of_le_of_lt (gcd_le_den wp) wb)
  rw [← hsh] at tl
  have tw := fun S => t_walk (x := x) (l := v.l.toNat) (k := kw.1) (S := S) hxx hL hK d8
  rw [hl'] at tw
  have Wn : SmK (walkW v.l.toNat kw.1 x).num 1 := SmK.of (by
    have := Nat.le_of_dvd g1 W.wd
    have := one (wG x v.l.toNat) (Nat.le_trans (Nat.le_mul_of_pos_left _ wp) M0b)
    have := W.w0
    omega)
  have leW : (walkW v.l.toNat kw.1 x).den ≤ wG x v.l.toNat := Nat.le_of_dvd g1 W.wd
  have leE : (walkE v.l.toNat kw.1 x).den ≤ wG x v.l.toNat * wN x := Nat.le_of_dvd (Nat.mul_pos g1 n1) W.ed
  have leS : sh.den ≤ whB v x := Nat.le_of_dvd wp shd
  have tm0 := fun S => t_timesK (r := sh) (s := walkW v.l.toNat kw.1 x) (S := S) shn Wn (by omega) (one _ (Nat.le_trans (Nat.mul_le_mul leS leW) M0b))
  have tm1 := fun S => t_timesK (r := sh) (s := walkE v.l.toNat kw.1 x) (S := S) shn W.en (by omega) (one _ (Nat.le_trans (Nat.mul_le_mul leS leE) M1))
  have p0 : (sh * walkW v.l.toNat kw.1 x).den ∣ whB v x * wG x v.l.toNat := dvd_mul wp g1 shd W.wd
  have p1 : (sh * walkE v.l.toNat kw.1 x).den ∣ whB v x * (wG x v.l.toNat * wN x) := dvd_mul wp (Nat.mul_pos g1 n1) shd W.ed
  have pn0 : SmK (sh * walkW v.l.toNat kw.1 x).num i := (num_mulK shn Wn).mono (by omega)
  have pn1 : SmK (sh * walkE v.l.toNat kw.1 x).num i := (num_mulK shn W.en).mono (by omega)
  have mp0 : 0 < whB v x * wG x v.l.toNat := Nat.mul_pos wp g1
  have mp1 : 0 < whB v x * (wG x v.l.toNat * wN x) := Nat.mul_pos wp (Nat.mul_pos g1 n1)
  have l0 := Nat.le_trans (Nat.le_of_dvd mp0 h.d0) M0b
  have l1 := Nat.le_trans (Nat.le_of_dvd mp1 h.d1) M1
  have l2 := Nat.le_trans (Nat.le_of_dvd mp0 p0) M0b
  have l3 := Nat.le_trans (Nat.le_of_dvd mp1 p1) M1
  have ta0 := fun S => t_addedK (r := f.1) (s := sh * walkW v.l.toNat kw.1 x) (S := S) h.n0 pn0 (by omega) (by omega) (sq _ _ l0 l2)
  have ta1 := fun S => t_addedK (r := f.2) (s := sh * walkE v.l.toNat kw.1 x) (S := S) h.n1 pn1 (by omega) (by omega) (sq _ _ l1 l3)
  have es : stepF v x f kw = (f.1 + sh * walkW v.l.toNat kw.1 x, f.2 + sh * walkE v.l.toNat kw.1 x) := by unfold stepF; rw [hsh]
  rw [es]
  refine ⟨⟨dvd_add mp0 h.d0 p0, dvd_add mp1 h.d1 p1, num_addK h.n0 pn0 (one _ l0) (one _ l2), num_addK h.n1 pn1 (one _ l1) (one _ l3)⟩, frD sh, .tup [frD (walkW v.l.toNat kw.1 x), frD (walkE v.l.toNat kw.1 x)], ?_⟩
  have gx : oGetX (.loc 1) (.int kw.1) [S2, .dki true (encR r)] = some (.int kw.2, [S2, .dki true (encR r)]) := by
    unfold oGetX findD
    simp only [List.getElem?_cons_succ, List.getElem?_cons_zero]
    rw [getI_enc, hr]; rfl
  have ev : v.D = .tup [.int v.t, .int v.l, oI v.c] := rfl
  unfold rnd2B
  rw [ev]
  unfold frD at *
  simp [gx, tl, tw, tm0, tm1, ta0, ta1]

end Sf
end

section
set_option Elab.async false
set_option maxRecDepth 100000
set_option linter.all false
set_option maxHeartbeats 4000000
namespace Sf
open PySem L2
/-! round_of as a whole -/
theorem t_loop2 {v : Lv} (hv : EOk v) {x : Rat} (hx : COk v x) {r : List (Int × Int)} (hn : (r.map (·.1)).Nodup) {x0 x2 x3 x4 x5 x6 x7 x9 x10 : D} {S2 : Ob} : ∀ (ks : List (Int × Int)) (f : Rat × Rat) (i : Nat) (x13 x14 x15 : D), (∀ kw ∈ ks, kw ∈ r ∧ (-v.l < kw.1 ∧ kw.1 < v.l ∧ 1 < v.l ∧ v.c = none) ∧ 0 ≤ kw.2 ∧ kw.2 ≤ 100 * (B9 : Int) ^ 4) → FInv v x i f → 9 ≤ i → i + 2 * ks.length ≤ 80 →
    FInv v x (i + 2 * ks.length) (ks.foldl (stepF v x) f) ∧ ∃ y13 y14 y15, forL (tgName 13) rnd2B (ks.map fun p => .int p.1) [v.D, frD x, x2, x3, x4, x5, x6, x7, .loc 1, x9, x10, .int (whB v x : Nat), .tup [frD f.1, frD f.2], x13, x14, x15] [S2, .dki true (encR r)] =
      .nx [v.D, frD x, x2, x3, x4, x5, x6, x7, .loc 1, x9, x10, .int (whB v x : Nat), .tup [frD (ks.foldl (stepF v x) f).1, frD (ks.foldl (stepF v x) f).2], y13, y14, y15] [S2, .dki true (encR r)]
  | [], f, i, x13, x14, x15, _, h, _, _ => ⟨h, x13, x14, x15, rfl⟩
  | kw :: ks, f, i, x13, x14, x15, hm, h, h9, hi => by
    rw [List.length_cons] at hi
    obtain ⟨m1, m2, m3⟩ := hm kw (by simp)
    obtain ⟨i1, y14, y15, e1⟩ := h.step hv hx ⟨h9, by omega⟩ m2 m3 (vs := x0) (x0 := x0) (x2 := x2) (x3 := x3) (x4 := x4) (x5 := x5) (x6 := x6) (x7 := x7) (x9 := x9) (x10 := x10) (x14 := x14) (x15 := x15) (S2 := S2) (getR_nodup hn kw m1)
    obtain ⟨i2, z13, z14, z15, e2⟩ := t_loop2 hv hx hn (x0 := x0) (x2 := x2) (x3 := x3) (x4 := x4) (x5 := x5) (x6 := x6) (x7 := x7) (x9 := x9) (x10 := x10) (S2 := S2) ks (stepF v x f kw) (i + 2) (.int kw.1) y14 y15 (fun kw hk => hm kw (by simp [hk])) i1 (by omega) (by omega)
    refine ⟨by rw [List.length_cons, show i + 2 * (ks.length + 1) = i + 2 + 2 * ks.length by omega]; exact i2, z13, z14, z15, ?_⟩
    rw [List.map_cons, forL_cons (env1 := [v.D, frD x, x2, x3, x4, x5, x6, x7, .loc 1, x9, x10, .int (whB v x : Nat), .tup [frD f.1, frD f.2], .int kw.1, x14, x15]) rfl, e1]
    exact e2
def RSof (v : Lv) (x : Rat) : RS := foldRS v x ⟨0, 0, []⟩ (endsV v)
def rF (v : Lv) (x : Rat) : Rat × Rat := (RSof v x).rest.foldl (stepF v x) (Rat.divInt (RSof v x).won (whB v x), Rat.divInt (RSof v x).uni (whB v x))
/-- the chance of a round, and the expected number of its units -/
def rC (v : Lv) (x : Rat) : Rat := (rF v x).1
def rU (v : Lv) (x : Rat) : Rat := (rF v x).2
theorem nodup_len {a b : List Int} (h : a.Nodup) (hs : ∀ x ∈ a, x ∈ b) : a.length ≤ b.length := by
  induction a generalizing b with
  | nil => simp
  | cons x a ih =>
    rw [List.nodup_cons] at h
    have hx := hs x (by simp)
    have := ih h.2 (b := b.erase x) (fun y hy => by
      have hne : y ≠ x := fun e => h.1 (by rw [← e]; exact hy)
      exact (List.mem_erase_of_ne hne).mpr (hs y (by simp [hy])))
    rw [List.length_erase_of_mem hx] at this
    have := List.length_pos_of_mem hx
    rw [List.length_cons]; omega
structure ROk (v : Lv) (x : Rat) : Prop where
  inv : FInv v x 29 (rF v x)
theorem rinv0 {v : Lv} : RInv v 0 ⟨0, 0, []⟩ := ⟨by simp, by simp, by simp, by simp, by simp, by simp⟩
theorem maxE {x : Int} {l : List Int} {S : Sto} : oMax [.lst ((x :: l).map D.int)] S = some (.int (l.foldl max x), S) := by
  show (match lsR (.lst ((x :: l).map D.int)) S with
    | some l => match intsD l with
      | some (n :: ns) => some (D.int (ns.foldl max n), S)
      | _ => none
    | none => none) = _
  have e : lsR (.lst ((x :: l).map D.int)) S = some ((x :: l).map D.int) := rfl
  rw [e]; simp only; rw [intsD_ints]
theorem x_lock {i n : Nat} {ob ob' : Ob} {f : FS} {env : En} {S : Sto} (h : env[i]? = some (.loc n)) (h2 : S[n]? = some ob) (h3 : lkO ob = some ob') : sLock i f env S = unSR n ob (f env (S.set n ob')) := by
  unfold sLock; rw [h]; simp only [h2, h3]
theorem x_lockE {i n : Nat} {ob ob' : Ob} {f : FE} {env : En} {S : Sto} (h : env[i]? = some (.loc n)) (h2 : S[n]? = some ob) (h3 : lkO ob = some ob') : fLock i f env S = unO n ob (f env (S.set n ob')) := by
  unfold fLock; rw [h]; simp only [h2, h3]
theorem rok {v : Lv} (hv : EOk v) {x : Rat} (hx : COk v x) : RInv v (endsV v).length (RSof v x) ∧ (RSof v x).rest.length ≤ 5 ∧ FInv v x 9 (Rat.divInt (RSof v x).won (whB v x), Rat.divInt (RSof v x).uni (whB v x)) := by
  have dp := x.den_pos
  obtain ⟨_, _, _, _, i⟩ := t_loop1 hv hx (x11 := .und) (x12 := .und) (x13 := .und) (x14 := .und) (x15 := .und) (endsV v) ⟨0, 0, []⟩ 0 .und .und .und (fun e he => he) rinv0 (by have := hv.len; omega)
  rw [Nat.zero_add] at i
  have wp : 0 < whB v x := Nat.pow_pos dp
  have hl := hv.l
  have hL : 1 ≤ v.l.toNat ∧ v.l.toNat ≤ 3 := by omega
  have hxx : 0 ≤ x.num ∧ x.num ≤ x.den := ⟨hx.nn, hx.le⟩
  obtain ⟨g1, _, _⟩ := wG_ok hxx hL
  obtain ⟨n1, _⟩ := wN_ok hxx
  have i : RInv v (endsV v).length (RSof v x) := i
  have hlen := hv.len
  have b9 := B9_pos
  have c4 : ((B9 ^ 4 : Nat) : Int) = (B9 : Int) ^ 4 := Int.natCast_pow ..
  have c5 : ((B9 ^ 5 : Nat) : Int) = (B9 : Int) ^ 5 := Int.natCast_pow ..
  have k4 : (endsV v).length * B9 ^ 4 ≤ B9 ^ 9 := by
    have : (endsV v).length * B9 ^ 4 ≤ B9 ^ 5 * B9 ^ 4 := Nat.mul_le_mul_right _ (by have : B9 ^ 1 ≤ B9 ^ 5 := Nat.pow_le_pow_right (by omega) (by omega); rw [Nat.pow_one] at this; omega)
    rw [← Nat.pow_add] at this; exact this
  have k5 : (endsV v).length * B9 ^ 5 ≤ B9 ^ 9 := by
    have : (endsV v).length * B9 ^ 5 ≤ B9 ^ 4 * B9 ^ 5 := Nat.mul_le_mul_right _ (by have : B9 ^ 1 ≤ B9 ^ 4 := Nat.pow_le_pow_right (by omega) (by omega); rw [Nat.pow_one] at this; omega)
    rw [← Nat.pow_add] at this; exact this
  have w4 := i.won
  have w5 := i.uni
  rw [← c4, ← Int.natCast_mul] at w4
  rw [← c5, ← Int.natCast_mul] at w5
  refine ⟨i, ?_, ⟨Nat.dvd_trans (dvd_divInt wp) (Nat.dvd_mul_right _ _), Nat.dvd_trans (dvd_divInt wp) (Nat.dvd_mul_right _ _), ?_, ?_⟩⟩
  · have := nodup_len (b := [-2, -1, 0, 1, 2]) i.nd (fun k hk => by
      obtain ⟨a, ha, rfl⟩ := List.mem_map.mp hk
      have := i.key a ha
      simp; omega)
    rw [List.length_map] at this; exact this
  · refine SmK.le (a := (RSof v x).won) ?_ num_le
    unfold SmK; omega
  · refine SmK.le (a := (RSof v x).uni) ?_ num_le
    unfold SmK; omega
theorem t_round_of {v : Lv} (hv : EOk v) {x : Rat} (hx : COk v x) {S : Sto} : pureF f_round_of [v.D, frD x] S = .ok (.tup [frD (rC v x), frD (rU v x)]) S := by
  have ev : v.D = .tup [.int v.t, .int v.l, oI v.c] := rfl
  refine pure_eq (by simp [lowL, low_Lv]; rfl) ?_
  obtain ⟨i, il, f9⟩ := rok hv hx
  have dp := x.den_pos
  have er := hv.run
  obtain ⟨e0, es, hE⟩ : ∃ e0 es, endsV v = e0 :: es := by
    cases h : endsV v with
    | nil => exact absurd h hv.ne
    | cons a b => exact ⟨a, b, rfl⟩
  have hmost : mostE v = (es.map fun e => e.1.1 + e.1.2).foldl max (e0.1.1 + e0.1.2) := by unfold mostE; rw [hE]
  have cm : ∀ env S, 3 < env.length → compL (tgName 3) tYesF (fOpN oSum (fCons (fVar 3) (fNil))) env ((endsV v).map fun e => prD e.1) S = .ok (((endsV v).map fun e => e.1.1 + e.1.2).map D.int) S := fun env S he => by
    have := comp_map (fun e : EnE => prD e.1) (fun e => .int (e.1.1 + e.1.2)) (fOpN oSum (fCons (fVar 3) (fNil))) env 3 S (endsV v) (fun e _ => by
      have g : (env.set 3 (prD e.1))[3]? = some (prD e.1) := by rw [List.getElem?_set_self he]
      have s2 : ∀ S, oSum [prD e.1] S = some (.int (e.1.1 + e.1.2), S) := fun S => sum2
      have ek : prD e.1 = .tup [.int e.1.1, .int e.1.2] := rfl
      rw [ek] at g s2 ⊢
      simp [g, s2])
    rw [List.map_map]; exact this
  have mx : ∀ S, oMax [.lst (((endsV v).map fun e => e.1.1 + e.1.2).map D.int)] S = some (.int (mostE v), S) := fun S => by
    rw [hmost, hE, List.map_cons]; exact maxE
  have kfl : fit (endsV v).length = true := fit_of (by have := hv.len; omega)
  obtain ⟨y3, y9, y10, L1, _⟩ := t_loop1 hv hx (x11 := .und) (x12 := .und) (x13 := .und) (x14 := .und) (x15 := .und) (endsV v) ⟨0, 0, []⟩ 0 .und .und .und (fun e he => he) rinv0 (by have := hv.len; omega)
  have L1 : forL (tgName 3) rndB ((endsV v).map fun e => prD e.1) [v.D, frD x, .loc 0, .und, .int (mostE v), .int (x.den - x.num), .int 0, .int 0, .loc 1, .und, .und, .und, .und, .und, .und, .und] [.dct true ((endsV v).map encE), .dki false []] =
      .nx [v.D, frD x, .loc 0, y3, .int (mostE v), .int (x.den - x.num), .int (RSof v x).won, .int (RSof v x).uni, .loc 1, y9, y10, .und, .und, .und, .und, .und] [.dct true ((endsV v).map encE), .dki false (encR (RSof v x).rest)] := L1
  obtain ⟨F, y13, y14, y15, L2⟩ := t_loop2 hv hx (r := (RSof v x).rest) i.nd (x0 := .und) (x2 := .loc 0) (x3 := y3) (x4 := .int (mostE v)) (x5 := .int (x.den - x.num)) (x6 := .int (RSof v x).won) (x7 := .int (RSof v x).uni) (x9 := y9) (x10 := y10) (S2 := .dct false ((endsV v).map encE)) (RSof v x).rest _ 9 .und .und .und (fun kw hk => ⟨hk, i.key kw hk, (i.val kw hk).1, by
    have h1 := (i.val kw hk).2
    have h2 := hv.len
    have : ((endsV v).length : Int) * (B9 : Int) ^ 4 ≤ 100 * (B9 : Int) ^ 4 := Int.mul_le_mul_of_nonneg_right (by omega) (Int.pow_nonneg (by omega))
    omega⟩) f9 (by omega) (by omega)
  have L2 : forL (tgName 13) rnd2B ((RSof v x).rest.map fun p => .int p.1) [v.D, frD x, .loc 0, y3, .int (mostE v), .int (x.den - x.num), .int (RSof v x).won, .int (RSof v x).uni, .loc 1, y9, y10, .int (whB v x : Nat), .tup [frD (Rat.divInt (RSof v x).won (whB v x)), frD (Rat.divInt (RSof v x).uni (whB v x))], .und, .und, .und] [.dct false ((endsV v).map encE), .dki true (encR (RSof v x).rest)] =
      .nx [v.D, frD x, .loc 0, y3, .int (mostE v), .int (x.den - x.num), .int (RSof v x).won, .int (RSof v x).uni, .loc 1, y9, y10, .int (whB v x : Nat), .tup [frD (rC v x), frD (rU v x)], y13, y14, y15] [.dct false ((endsV v).map encE), .dki true (encR (RSof v x).rest)] := L2
  have hm0 : 0 ≤ mostE v := by have := hv.nn e0 (by rw [hE]; simp); omega
  have hm := hv.most
  have wb : whB v x < B9 := hx.d1
  have wp : 0 < whB v x := Nat.pow_pos dp
  have pwd : ∀ S, pureF f_power [.int x.den, .int (mostE v)] S = .ok (.int (whB v x : Nat)) S := fun S => by
    by_cases h : (mostE v).toNat = 0
    · have h' : mostE v = 0 := by omega
      refine pure_eq rfl ?_
      unfold whB f_power fn b_power
      rw [h']
      have hk0 : kRng1 [.int 0] = some [] := rfl
      simp [hk0, forL, end_rt]
    · have := t_power (b := x.den) (n := (mostE v).toNat) (S := S) (by omega) (fun k hk => Sm.of (by
        have := sm_pow (n := k) (a := x.den) dp hx.d1 (by omega) (by omega) hk; omega)) (Sm.of (by
        have := sm_pow (n := 1) (a := x.den) dp hx.d1 (by omega) (by omega) (by omega); rw [Int.pow_one] at this; omega))
      rw [show (((mostE v).toNat : Nat) : Int) = mostE v by omega] at this
      rw [this]
      unfold whB
      rw [Int.natCast_pow]
  have tl1 := fun S => t_lowest (n := (RSof v x).won) (d := whB v x) (S := S) (by omega) (by have := B9_B4; omega) (Nat.lt_of_le_of_lt (gcd_le_den wp) wb)
  have tl2 := fun S => t_lowest (n := (RSof v x).uni) (d := whB v x) (S := S) (by omega) (by have := B9_B4; omega) (Nat.lt_of_le_of_lt (gcd_le_den wp) wb)
  unfold f_round_of fn b_round_of
  change fnEnd false 0 (sSeq _ (sSeq _ (sSeq _ (sSeq (sLock 2 (sFor _ _ rndB)) (sSeq _ (sSeq _ (sSeq (sLock 8 (sFor _ _ rnd2B)) _)))))) _ _) = _
  have kk : ((endsV v).map encE).map (·.1) = (endsV v).map fun e => prD e.1 := by rw [List.map_map]; rfl
  have lkC : fLock 2 (fComp false (iKeysD (fVar 2)) (tgName 3) (tYesF) (fOpN oSum (fCons (fVar 3) (fNil))) [3]) [v.D, frD x, .loc 0, .und, .und, .und, .und, .und, .und, .und, .und, .und, .und, .und, .und, .und] [.dct false ((endsV v).map encE)] = .ok (.lst (((endsV v).map fun e => e.1.1 + e.1.2).map D.int)) [.dct false ((endsV v).map encE)] := by
    rw [x_lockE (n := 0) (ob := .dct false ((endsV v).map encE)) (ob' := .dct true ((endsV v).map encE)) rfl rfl rfl]
    have ik : iKeysD (fVar 2) [v.D, frD x, .loc 0, .und, .und, .und, .und, .und, .und, .und, .und, .und, .und, .und, .und, .und] [.dct true ((endsV v).map encE)] = .ok ((endsV v).map fun e => prD e.1) [.dct true ((endsV v).map encE)] := by
      rw [← kk]; rfl
    have c := cm [v.D, frD x, .loc 0, .und, .und, .und, .und, .und, .und, .und, .und, .und, .und, .und, .und, .und] [.dct true ((endsV v).map encE)] (by simp)
    have c : compL (tgName 3) tYesF (fOpN oSum (fCons (fVar 3) (fNil))) (undE [v.D, frD x, .loc 0, .und, .und, .und, .und, .und, .und, .und, .und, .und, .und, .und, .und, .und] [3]) ((endsV v).map fun e => prD e.1) [.dct true ((endsV v).map encE)] = _ := c
    show unO 0 _ (fComp false _ _ _ _ _ _ [.dct true ((endsV v).map encE)]) = _
    simp only [x_comp, ik, x_bind, List.length_map, kfl, cond_true, c]
    rfl
  have lkS1 : sLock 2 (sFor (iKeysD (fVar 2)) (tgName 3) rndB) [v.D, frD x, .loc 0, .und, .int (mostE v), .int (x.den - x.num), .int 0, .int 0, .loc 1, .und, .und, .und, .und, .und, .und, .und] [.dct false ((endsV v).map encE), .dki false []] =
      .nx [v.D, frD x, .loc 0, y3, .int (mostE v), .int (x.den - x.num), .int (RSof v x).won, .int (RSof v x).uni, .loc 1, y9, y10, .und, .und, .und, .und, .und] [.dct false ((endsV v).map encE), .dki false (encR (RSof v x).rest)] := by
    rw [x_lock (n := 0) (ob := .dct false ((endsV v).map encE)) (ob' := .dct true ((endsV v).map encE)) rfl rfl rfl]
    have ik : iKeysD (fVar 2) [v.D, frD x, .loc 0, .und, .int (mostE v), .int (x.den - x.num), .int 0, .int 0, .loc 1, .und, .und, .und, .und, .und, .und, .und] [.dct true ((endsV v).map encE), .dki false []] = .ok ((endsV v).map fun e => prD e.1) [.dct true ((endsV v).map encE), .dki false []] := by
      rw [← kk]; rfl
    show unSR 0 _ (sFor _ _ _ _ [.dct true ((endsV v).map encE), .dki false []]) = _
    rw [x_for_, ik]
    show unSR 0 _ (forL _ _ _ _ _) = _
    rw [L1]; rfl
  have lkS2 : sLock 8 (sFor (iKeysD (fVar 8)) (tgName 13) rnd2B) [v.D, frD x, .loc 0, y3, .int (mostE v), .int (x.den - x.num), .int (RSof v x).won, .int (RSof v x).uni, .loc 1, y9, y10, .int (whB v x : Nat), .tup [frD (Rat.divInt (RSof v x).won (whB v x)), frD (Rat.divInt (RSof v x).uni (whB v x))], .und, .und, .und] [.dct false ((endsV v).map encE), .dki false (encR (RSof v x).rest)] =
      .nx [v.D, frD x, .loc 0, y3, .int (mostE v), .int (x.den - x.num), .int (RSof v x).won, .int (RSof v x).uni, .loc 1, y9, y10, .int (whB v x : Nat), .tup [frD (rC v x), frD (rU v x)], y13, y14, y15] [.dct false ((endsV v).map encE), .dki false (encR (RSof v x).rest)] := by
    rw [x_lock (n := 1) (ob := .dki false (encR (RSof v x).rest)) (ob' := .dki true (encR (RSof v x).rest)) rfl rfl rfl]
    have ik : iKeysD (fVar 8) [v.D, frD x, .loc 0, y3, .int (mostE v), .int (x.den - x.num), .int (RSof v x).won, .int (RSof v x).uni, .loc 1, y9, y10, .int (whB v x : Nat), .tup [frD (Rat.divInt (RSof v x).won (whB v x)), frD (Rat.divInt (RSof v x).uni (whB v x))], .und, .und, .und] [.dct false ((endsV v).map encE), .dki true (encR (RSof v x).rest)] = .ok ((RSof v x).rest.map fun p => .int p.1) [.dct false ((endsV v).map encE), .dki true (encR (RSof v x).rest)] := by
      show Out.ok ((encR (RSof v x).rest).map fun p => D.int p.1) _ = _
      unfold encR
      rw [List.map_map]; rfl
    show unSR 1 _ (sFor _ _ _ _ [.dct false ((endsV v).map encE), .dki true (encR (RSof v x).rest)]) = _
    rw [x_for_, ik]
    show unSR 1 _ (forL _ _ _ _ _) = _
    rw [L2]; rfl
  obtain ⟨kv, hkv⟩ : ∃ kv, kv = (endsV v).map encE := ⟨_, rfl⟩
  have dki0 : ∀ env S, fDki0 env S = .ok (.loc S.length) (S ++ [.dki false []]) := fun _ _ => rfl
  have ep : ∀ S, fnEnd false 0 (.rt (.tup [frD (rC v x), frD (rU v x)]) S) = .ok (.tup [frD (rC v x), frD (rU v x)]) [] := fun S => end_pl (n := 2) rfl (by omega)
  obtain ⟨SL, hSL⟩ : ∃ SL, SL = ((endsV v).map fun e => e.1.1 + e.1.2).map D.int := ⟨_, rfl⟩
  rw [← hSL] at mx lkC
  rw [← hkv] at er lkC lkS1 lkS2
  rw [ev] at er lkC lkS1 lkS2 ⊢
  unfold frD at *
  simp [-Rat.divInt_ofNat, er, lkC, mx, dki0, lkS1, pwd, tl1, tl2, lkS2, ep]

end Sf
end

section
set_option Elab.async false
set_option maxRecDepth 100000
set_option linter.all false
set_option maxHeartbeats 4000000
namespace Sf
open PySem L2
/-! plain: polynomials with integer coefficients -/
abbrev Pl := List Int
def evP (p : Pl) (x : Rat) : Rat := List.foldr (fun (c : Int) (a : Rat) => (c : Rat) + x * a) (0 : Rat) p
theorem evP_cons {c : Int} {p : Pl} {x : Rat} : evP (c :: p) x = (c : Rat) + x * evP p x := rfl
def pAdd : Pl → Pl → Pl
  | [], q => q
  | p, [] => p
  | a :: p, b :: q => (a + b) :: pAdd p q
theorem evP_add {x : Rat} : ∀ p q : Pl, evP (pAdd p q) x = evP p x + evP q x
  | [], q => by simp only [pAdd, evP, List.foldr_nil]; grind
  | a :: p, [] => by simp only [pAdd, evP, List.foldr_nil]; grind
  | a :: p, b :: q => by
    simp only [pAdd, evP_cons, evP_add p q, Rat.intCast_add]
    grind
def pScale (k : Int) (p : Pl) : Pl := p.map (k * ·)
theorem evP_scale {k : Int} {x : Rat} : ∀ p : Pl, evP (pScale k p) x = (k : Rat) * evP p x
  | [] => by simp only [pScale, List.map_nil, evP, List.foldr_nil]; grind
  | a :: p => by
    have ih := evP_scale (k := k) (x := x) p
    unfold pScale at ih ⊢
    rw [List.map_cons, evP_cons, ih, evP_cons, Rat.intCast_mul]
    grind
def pMul : Pl → Pl → Pl
  | [], _ => []
  | a :: p, q => pAdd (pScale a q) (0 :: pMul p q)
theorem evP_mul {x : Rat} : ∀ p q : Pl, evP (pMul p q) x = evP p x * evP q x
  | [], q => by simp only [pMul, evP, List.foldr_nil]; grind
  | a :: p, q => by
    have z : ((0 : Int) : Rat) = 0 := rfl
    simp only [pMul, evP_add, evP_scale, evP_cons, evP_mul p q, z]
    grind
def pPow (p : Pl) : Nat → Pl
  | 0 => [1]
  | n + 1 => pMul (pPow p n) p
theorem evP_pow {p : Pl} {x : Rat} : ∀ n : Nat, evP (pPow p n) x = evP p x ^ n
  | 0 => by
    have z : ((1 : Int) : Rat) = 1 := rfl
    simp only [pPow, evP_cons, z, evP, List.foldr_nil, Rat.pow_zero]; grind
  | n + 1 => by rw [pPow, evP_mul, evP_pow n, Rat.pow_succ]
def pX : Pl := [0, 1]
def pY : Pl := [1, -1]
theorem evP_X {x : Rat} : evP pX x = x := by
  have z : ((0 : Int) : Rat) = 0 := rfl
  have o : ((1 : Int) : Rat) = 1 := rfl
  simp only [pX, evP_cons, z, o, evP, List.foldr_nil]; grind
theorem evP_Y {x : Rat} : evP pY x = 1 - x := by
  have o : ((1 : Int) : Rat) = 1 := rfl
  have m : ((-1 : Int) : Rat) = -1 := rfl
  simp only [pY, evP_cons, o, m, evP, List.foldr_nil]; grind
def pSum (l : List Pl) : Pl := l.foldr pAdd []
theorem evP_sum {x : Rat} : ∀ l : List Pl, evP (pSum l) x = (l.map fun p => evP p x).sum
  | [] => rfl
  | p :: l => by
    show evP (pAdd p (pSum l)) x = _
    rw [evP_add, evP_sum l, List.map_cons, List.sum_cons]
/-- the same but for noughts at the end -/
def pEq (p q : Pl) : Bool := (pAdd p (pScale (-1) q)).all fun c => decide (c = 0)
theorem evP_zero {x : Rat} : ∀ p : Pl, (p.all fun c => decide (c = 0)) = true → evP p x = 0
  | [], _ => rfl
  | c :: p, h => by
    rw [List.all_cons, Bool.and_eq_true] at h
    have h1 := of_decide_eq_true h.1
    subst h1
    have z : ((0 : Int) : Rat) = 0 := rfl
    rw [evP_cons, evP_zero p h.2, z]; grind
theorem pEq_ok {p q : Pl} {x : Rat} (h : pEq p q = true) : evP p x = evP q x := by
  have h := evP_zero (x := x) _ h
  have m : ((-1 : Int) : Rat) = -1 := rfl
  rw [evP_add, evP_scale, m] at h
  grind

end Sf
end

section
set_option Elab.async false
set_option maxRecDepth 100000
set_option linter.all false
set_option maxHeartbeats 4000000
namespace Sf
open PySem L2
/-! plain: the chance of a round lies between 0 and 1 -/
theorem ratMulPow (a b : Rat) : ∀ n : Nat, (a * b) ^ n = a ^ n * b ^ n
  | 0 => by simp only [Rat.pow_zero]; grind
  | n + 1 => by rw [Rat.pow_succ, Rat.pow_succ, Rat.pow_succ, ratMulPow a b n]; grind
theorem ratPowAdd (a : Rat) (m : Nat) : ∀ n : Nat, a ^ (m + n) = a ^ m * a ^ n
  | 0 => by simp only [Rat.pow_zero, Nat.add_zero]; grind
  | n + 1 => by rw [← Nat.add_assoc, Rat.pow_succ, Rat.pow_succ, ratPowAdd a m n]; grind
theorem unit_iff {x : Rat} : (0 ≤ x.num ∧ x.num ≤ x.den) ↔ (0 ≤ x ∧ x ≤ 1) := by
  have dp : (0 : Rat) < (x.den : Nat) := Rat.natCast_pos.mpr x.den_pos
  rw [Rat.num_nonneg]
  constructor
  · rintro ⟨h1, h2⟩
    refine ⟨h1, ?_⟩
    have h3 : (x.num : Rat) ≤ ((x.den : Int) : Rat) := Rat.intCast_le_intCast.mpr h2
    rw [rat_self, Rat.intCast_natCast] at h3
    generalize ((x.den : Nat) : Rat) = d at *
    rcases Rat.le_total (a := x) (b := 1) with h | h
    · exact h
    · have h4 : d ≤ x * d := by
        have := Rat.mul_le_mul_of_nonneg_right h (Rat.le_of_lt dp)
        rwa [Rat.one_mul] at this
      have h5 : x * d = d := Rat.le_antisymm h3 h4
      have dn : d ≠ 0 := fun e => by rw [e] at dp; exact absurd dp (by decide)
      have e2 : d * d⁻¹ = 1 := Rat.mul_inv_cancel d dn
      have e1 : (x * d) * d⁻¹ = x := by rw [Rat.mul_assoc, e2, Rat.mul_one]
      have : x = 1 := by rw [← e1, h5, e2]
      rw [this]
      exact Rat.le_refl
  · rintro ⟨h1, h2⟩
    refine ⟨h1, ?_⟩
    rw [← Rat.intCast_le_intCast, rat_self, Rat.intCast_natCast]
    have := Rat.mul_le_mul_of_nonneg_right h2 (Rat.le_of_lt dp)
    rwa [Rat.one_mul] at this
def facC (v : Lv) (x : Rat) (e : EnE) : Rat := match rwM v e.1 with
  | some k => if k = 0 then 1 else 0
  | none => walkW v.l.toNat (e.1.1 - e.1.2) x
def facU (v : Lv) (x : Rat) (e : EnE) : Rat := ((e.1.1 + e.1.2 : Int) : Rat) + match rwM v e.1 with
  | some _ => 0
  | none => walkE v.l.toNat (e.1.1 - e.1.2) x
def wR (x : Rat) (e : EnE) : Rat := (e.2 : Rat) * x ^ e.1.1.toNat * (1 - x) ^ e.1.2.toNat
def sumRest (g : Int → Rat) (wh : Nat) (r : List (Int × Int)) : Rat := (r.map fun kw => Rat.divInt kw.2 wh * g kw.1).sum
theorem divInt_addn {a b : Int} {w : Nat} (h : 0 < w) : Rat.divInt (a + b) w = Rat.divInt a w + Rat.divInt b w := by
  rw [Rat.divInt_eq_div, Rat.divInt_eq_div, Rat.divInt_eq_div, Rat.intCast_add]
  have : ((w : Int) : Rat) ≠ 0 := by rw [Rat.intCast_natCast, Ne, Rat.natCast_eq_zero_iff]; omega
  generalize ((w : Int) : Rat) = W at *
  grind
theorem sum_app {a b : List Rat} : (a ++ b).sum = a.sum + b.sum := by
  induction a with
  | nil => simp only [List.nil_append, List.sum_nil]; grind
  | cons x a ih => rw [List.cons_append, List.sum_cons, List.sum_cons, ih]; grind
theorem sum_putR {g : Int → Rat} {wh : Nat} (hw : 0 < wh) {k w : Int} : ∀ {r : List (Int × Int)}, (r.map (·.1)).Nodup → sumRest g wh (putR r k ((getR r k).getD 0 + w)) = sumRest g wh r + Rat.divInt w wh * g k := by
  intro r hn
  cases hg : getR r k with
  | none =>
    unfold putR sumRest
    rw [hg]
    simp only [Option.isSome_none, cond_false, Option.getD_none, Int.zero_add]
    rw [List.map_append, sum_app, List.map_singleton, List.sum_singleton]
  | some i =>
    unfold putR sumRest
    rw [hg]
    simp only [Option.isSome_some, cond_true, Option.getD_some]
    rw [List.map_map]
    have hm := getR_mem hg
    have key : ∀ r : List (Int × Int), (r.map (·.1)).Nodup → ((k, i) ∈ r → (r.map ((fun kw => Rat.divInt kw.2 wh * g kw.1) ∘ fun p => bif decide (p.1 = k) then (p.1, i + w) else p)).sum = (r.map fun kw => Rat.divInt kw.2 wh * g kw.1).sum + Rat.divInt w wh * g k) ∧
        (k ∉ r.map (·.1) → (r.map ((fun kw => Rat.divInt kw.2 wh * g kw.1) ∘ fun p => bif decide (p.1 = k) then (p.1, i + w) else p)).sum = (r.map fun kw => Rat.divInt kw.2 wh * g kw.1).sum) := by
      intro r
      induction r with
      | nil => intro _; simp
      | cons a r ih =>
        intro hn
        rw [List.map_cons, List.nodup_cons] at hn
        obtain ⟨i1, i2⟩ := ih hn.2
        constructor
        · intro h
          rw [List.map_cons, List.map_cons, List.sum_cons, List.sum_cons]
          rcases List.mem_cons.mp h with h | h
          · subst h
            have : k ∉ r.map (·.1) := hn.1
            rw [i2 this]
            simp only [Function.comp, decide_true, cond_true]
            rw [divInt_addn hw]
            grind
          · have : ¬ a.1 = k := fun e => hn.1 (by rw [e]; exact List.mem_map.mpr ⟨(k, i), h, rfl⟩)
            rw [i1 h]
            simp only [Function.comp, decide_eq_false this, cond_false]
            grind
        · intro h
          rw [List.map_cons] at h
          have h1 : ¬ a.1 = k := fun e => h (by rw [e]; simp)
          have h2 : k ∉ r.map (·.1) := fun e => h (by simp [e])
          rw [List.map_cons, List.map_cons, List.sum_cons, List.sum_cons, i2 h2]
          simp only [Function.comp, decide_eq_false h1, cond_false]
    exact (key r hn).1 hm
theorem wt_eq {v : Lv} (hv : EOk v) {x : Rat} {e : EnE} (he : e ∈ endsV v) : Rat.divInt (wtE x.num (x.den - x.num) x.den (mostE v) e) (whB v x) = wR x e := by
  obtain ⟨n1, n2, n3⟩ := hv.nn e he
  have h0 : ((x.den : Nat) : Rat) ≠ 0 := by rw [Ne, Rat.natCast_eq_zero_iff]; exact x.den_nz
  unfold wtE whB wR
  rw [Rat.divInt_eq_div]
  simp only [Rat.intCast_mul, Rat.intCast_pow, Rat.intCast_sub, Rat.natCast_pow, Rat.intCast_natCast, rat_self]
  have em : (mostE v).toNat = e.1.1.toNat + e.1.2.toNat + (mostE v - (e.1.1 + e.1.2)).toNat := by omega
  rw [em]
  have e1 : ((x.den : Nat) : Rat) - x * (x.den : Nat) = (1 - x) * (x.den : Nat) := by grind
  rw [e1]
  generalize ((x.den : Nat) : Rat) = d at *
  generalize e.1.1.toNat = a
  generalize e.1.2.toNat = b
  generalize (mostE v - (e.1.1 + e.1.2)).toNat = c
  generalize (e.2 : Rat) = w
  have p1 : (x * d) ^ a = x ^ a * d ^ a := ratMulPow ..
  have p2 : ((1 - x) * d) ^ b = (1 - x) ^ b * d ^ b := ratMulPow ..
  have p3 : d ^ (a + b + c) = d ^ a * d ^ b * d ^ c := by rw [ratPowAdd, ratPowAdd]
  have z : ∀ n : Nat, d ^ n ≠ 0 := fun n => by
    induction n with
    | zero => rw [Rat.pow_zero]; decide
    | succ n ih => rw [Rat.pow_succ]; grind
  have za := z a
  have zb := z b
  have zc := z c
  rw [p1, p2, p3]
  generalize d ^ a = A at *
  generalize d ^ b = B at *
  generalize d ^ c = C at *
  generalize x ^ a = X
  generalize (1 - x) ^ b = Y
  grind
/-- what the numbers of the first loop stand for -/
def valC (v : Lv) (x : Rat) (s : RS) : Rat := Rat.divInt s.won (whB v x) + sumRest (fun k => walkW v.l.toNat k x) (whB v x) s.rest
def valU (v : Lv) (x : Rat) (s : RS) : Rat := Rat.divInt s.uni (whB v x) + sumRest (fun k => walkE v.l.toNat k x) (whB v x) s.rest
theorem divInt_mulr {a b : Int} {w : Nat} : Rat.divInt (a * b) w = Rat.divInt a w * (b : Rat) := by
  rw [Rat.divInt_eq_div, Rat.divInt_eq_div, Rat.intCast_mul]
  generalize ((w : Int) : Rat) = W
  rw [Rat.div_def, Rat.div_def]
  grind
theorem val_step {v : Lv} (hv : EOk v) {x : Rat} {n : Nat} {s : RS} (h : RInv v n s) {e : EnE} (he : e ∈ endsV v) :
    valC v x (stepR v x.num (x.den - x.num) x.den (mostE v) s e) = valC v x s + wR x e * facC v x e ∧ valU v x (stepR v x.num (x.den - x.num) x.den (mostE v) s e) = valU v x s + wR x e * facU v x e := by
  have wp : 0 < whB v x := Nat.pow_pos x.den_pos
  have ew := wt_eq hv (x := x) he
  unfold valC valU stepR facC facU
  cases hr : rwM v e.1 with
  | some k =>
    simp only
    rw [divInt_addn wp, divInt_mulr, ew]
    by_cases hk : k = 0
    · rw [if_pos hk, if_pos hk, divInt_addn wp, ew]
      constructor <;> grind
    · rw [if_neg hk, if_neg hk]
      constructor <;> grind
  | none =>
    simp only
    rw [divInt_addn wp, divInt_mulr, sum_putR wp h.nd, sum_putR wp h.nd, ew]
    constructor <;> grind
theorem val_fold {v : Lv} (hv : EOk v) {x : Rat} (hx : COk v x) : ∀ (es : List EnE) (s : RS) (n : Nat), (∀ e ∈ es, e ∈ endsV v) → RInv v n s →
    valC v x (foldRS v x s es) = valC v x s + (es.map fun e => wR x e * facC v x e).sum ∧ valU v x (foldRS v x s es) = valU v x s + (es.map fun e => wR x e * facU v x e).sum
  | [], s, n, _, _ => by
    simp only [List.map_nil, List.sum_nil]
    constructor
    · show valC v x s = _; grind
    · show valU v x s = _; grind
  | e :: es, s, n, hm, h => by
    have he := hm e (by simp)
    obtain ⟨i1, i2⟩ := val_fold hv hx es _ (n + 1) (fun e he => hm e (by simp [he])) (h.step hv hx he)
    obtain ⟨a1, a2⟩ := val_step hv (x := x) h he
    rw [List.map_cons, List.map_cons, List.sum_cons, List.sum_cons]
    have f : foldRS v x s (e :: es) = foldRS v x (stepR v x.num (x.den - x.num) x.den (mostE v) s e) es := rfl
    rw [f, i1, i2, a1, a2]
    constructor <;> grind
theorem fold_F {v : Lv} {x : Rat} : ∀ (r : List (Int × Int)) (f : Rat × Rat), (r.foldl (stepF v x) f).1 = f.1 + sumRest (fun k => walkW v.l.toNat k x) (whB v x) r ∧ (r.foldl (stepF v x) f).2 = f.2 + sumRest (fun k => walkE v.l.toNat k x) (whB v x) r
  | [], f => by
    unfold sumRest
    simp only [List.map_nil, List.sum_nil, List.foldl_nil]
    constructor <;> grind
  | kw :: r, f => by
    obtain ⟨i1, i2⟩ := fold_F r (stepF v x f kw)
    rw [List.foldl_cons, i1, i2]
    unfold sumRest stepF
    simp only [List.map_cons, List.sum_cons]
    constructor <;> grind
theorem rC_eq {v : Lv} (hv : EOk v) {x : Rat} (hx : COk v x) : rC v x = ((endsV v).map fun e => wR x e * facC v x e).sum ∧ rU v x = ((endsV v).map fun e => wR x e * facU v x e).sum := by
  obtain ⟨i1, i2⟩ := val_fold hv hx (endsV v) ⟨0, 0, []⟩ 0 (fun e he => he) rinv0
  obtain ⟨j1, j2⟩ := fold_F (v := v) (x := x) (RSof v x).rest (Rat.divInt (RSof v x).won (whB v x), Rat.divInt (RSof v x).uni (whB v x))
  have z : Rat.divInt 0 (whB v x) = 0 := Rat.zero_divInt _
  have z1 : valC v x ⟨0, 0, []⟩ = 0 := by unfold valC sumRest; rw [z]; simp only [List.map_nil, List.sum_nil]; grind
  have z2 : valU v x ⟨0, 0, []⟩ = 0 := by unfold valU sumRest; rw [z]; simp only [List.map_nil, List.sum_nil]; grind
  rw [z1] at i1
  rw [z2] at i2
  constructor
  · show (rF v x).1 = _
    unfold rF
    rw [j1]
    show valC v x (RSof v x) = _
    show valC v x (foldRS v x ⟨0, 0, []⟩ (endsV v)) = _
    rw [i1]; grind
  · show (rF v x).2 = _
    unfold rF
    rw [j2]
    show valU v x (RSof v x) = _
    show valU v x (foldRS v x ⟨0, 0, []⟩ (endsV v)) = _
    rw [i2]; grind
/-- all the chances of the ends are one -/
def eP (e : EnE) : Pl := pScale e.2 (pMul (pPow pX e.1.1.toNat) (pPow pY e.1.2.toNat))
theorem evP_e {x : Rat} {e : EnE} : evP (eP e) x = wR x e := by
  unfold eP wR
  rw [evP_scale, evP_mul, evP_pow, evP_pow, evP_X, evP_Y, Rat.mul_assoc]
def oneB (v : Lv) : Bool := pEq (pSum ((endsV v).map eP)) [1]
theorem one_sum {v : Lv} (h : oneB v = true) {x : Rat} : ((endsV v).map (wR x)).sum = 1 := by
  have h := pEq_ok (x := x) h
  rw [evP_sum, List.map_map] at h
  have e : ((fun p => evP p x) ∘ eP) = wR x := by funext e; exact evP_e
  rw [e] at h
  rw [h]
  have o : ((1 : Int) : Rat) = 1 := rfl
  rw [evP_cons, o]
  show (1 : Rat) + x * 0 = 1
  grind
theorem oneB_all {v : Lv} (hv : v ∈ lvAll) : oneB v = true := all_ok (p := oneB) (by decide +kernel) hv
theorem wR_nn {x : Rat} (h0 : 0 ≤ x) (h1 : x ≤ 1) {v : Lv} (hv : EOk v) {e : EnE} (he : e ∈ endsV v) : 0 ≤ wR x e := by
  have h2 : (0 : Rat) ≤ 1 - x := by grind
  have h3 : (0 : Rat) ≤ (e.2 : Rat) := Rat.intCast_nonneg.mpr (by have := (hv.ways e he).1; omega)
  exact Rat.mul_nonneg (Rat.mul_nonneg h3 (Rat.pow_nonneg h0)) (Rat.pow_nonneg h2)
theorem sum_le {α : Type} {f g : α → Rat} : ∀ l : List α, (∀ a ∈ l, 0 ≤ f a ∧ f a ≤ g a) → 0 ≤ (l.map f).sum ∧ (l.map f).sum ≤ (l.map g).sum
  | [], _ => by simp only [List.map_nil, List.sum_nil]; exact ⟨Rat.le_refl, Rat.le_refl⟩
  | a :: l, h => by
    obtain ⟨i1, i2⟩ := sum_le l fun a ha => h a (by simp [ha])
    obtain ⟨a1, a2⟩ := h a (by simp)
    simp only [List.map_cons, List.sum_cons]
    constructor <;> grind
theorem facC_unit {v : Lv} (hv : EOk v) {x : Rat} (hx : COk v x) {e : EnE} (he : e ∈ endsV v) : 0 ≤ facC v x e ∧ facC v x e ≤ 1 := by
  unfold facC
  cases hr : rwM v e.1 with
  | some k =>
    simp only
    split
    · constructor <;> grind
    · constructor <;> grind
  | none =>
    simp only
    have ho := hv.open' e he hr
    have d2 := hx.d2 ho.2.2.2 ho.2.2.1
    have := hv.l
    exact unit_iff.mp (walk_ok ⟨hx.nn, hx.le⟩ (by omega) (by omega) (pow_small x.den_pos d2 (by omega))).w0
theorem rC_unit {v : Lv} (hv : EOk v) (h1 : oneB v = true) {x : Rat} (hx : COk v x) : 0 ≤ (rC v x).num ∧ (rC v x).num ≤ (rC v x).den := by
  obtain ⟨u1, u2⟩ := unit_iff.mp ⟨hx.nn, hx.le⟩
  rw [unit_iff, (rC_eq hv hx).1]
  have := sum_le (f := fun e => wR x e * facC v x e) (g := wR x) (endsV v) (fun e he => by
    obtain ⟨a, b⟩ := facC_unit hv hx he
    have w := wR_nn u1 u2 hv he
    refine ⟨Rat.mul_nonneg w a, ?_⟩
    have := Rat.mul_le_mul_of_nonneg_left b w
    rwa [Rat.mul_one] at this)
  rw [one_sum h1] at this
  exact this
/-- denominators of a round -/
theorem rC_den {v : Lv} (hv : EOk v) {x : Rat} (hx : COk v x) : (rC v x).den ∣ whB v x * wG x v.l.toNat ∧ (rU v x).den ∣ whB v x * (wG x v.l.toNat * wN x) ∧ SmK (rU v x).num 19 := by
  obtain ⟨i, il, f9⟩ := rok hv hx
  obtain ⟨F, _⟩ := t_loop2 hv hx (r := (RSof v x).rest) i.nd (x0 := .und) (x2 := .und) (x3 := .und) (x4 := .und) (x5 := .und) (x6 := .und) (x7 := .und) (x9 := .und) (x10 := .und) (S2 := .lst []) (RSof v x).rest _ 9 .und .und .und (fun kw hk => ⟨hk, i.key kw hk, (i.val kw hk).1, by
    have h1 := (i.val kw hk).2
    have h2 := hv.len
    have : ((endsV v).length : Int) * (B9 : Int) ^ 4 ≤ 100 * (B9 : Int) ^ 4 := Int.mul_le_mul_of_nonneg_right (by omega) (Int.pow_nonneg (by omega))
    omega⟩) f9 (by omega) (by omega)
  exact ⟨F.d0, F.d1, F.n1.mono (by omega)⟩

end Sf
end

section
set_option Elab.async false
set_option maxRecDepth 100000
set_option linter.all false
set_option maxHeartbeats 4000000
namespace Sf
open PySem L2
/-! chance and expectation of a form -/
def opV (v : Lv) : Bool := v.c.isNone && decide (1 < v.l)
def GV (v : Lv) : Nat := (mostE v).toNat + if opV v then 5 else 0
def GU (v : Lv) : Nat := (mostE v).toNat + if opV v then 6 else 0
def CV (v : Lv) : Nat := if opV v then 2 * ((mostE v).toNat + 6) else (mostE v).toNat
theorem opV_iff {v : Lv} : opV v = true ↔ v.c = none ∧ 1 < v.l := by unfold opV; simp
theorem cok {v : Lv} {x : Rat} (h : 0 ≤ x.num ∧ x.num ≤ x.den) (hd : x.den ^ CV v < B9) : COk v x := by
  have dp := x.den_pos
  refine ⟨h.1, h.2, pow_small dp hd ?_, fun h1 h2 => ?_⟩
  · unfold CV; split <;> omega
  · have : opV v = true := opV_iff.mpr ⟨h1, h2⟩
    unfold CV at hd
    rw [if_pos this] at hd
    exact hd
theorem rest_nil {v : Lv} (hv : EOk v) {x : Rat} (hx : COk v x) (h : opV v = false) : (RSof v x).rest = [] := by
  obtain ⟨i, _, _⟩ := rok hv hx
  cases hr : (RSof v x).rest with
  | nil => rfl
  | cons kw r =>
    have := i.key kw (by rw [hr]; simp)
    have : opV v = true := opV_iff.mpr ⟨this.2.2.2, this.2.2.1⟩
    rw [h] at this; cases this
theorem den_grow {v : Lv} (hv : EOk v) {x : Rat} (hx : COk v x) : (rC v x).den ≤ x.den ^ GV v ∧ (rU v x).den ≤ x.den ^ GU v := by
  have dp := x.den_pos
  have wp : 0 < whB v x := Nat.pow_pos dp
  obtain ⟨d0, d1, _⟩ := rC_den hv hx
  have hl := hv.l
  obtain ⟨g1, _, g3⟩ := wG_ok (x := x) (l := v.l.toNat) ⟨hx.nn, hx.le⟩ (by omega)
  obtain ⟨n1, n2⟩ := wN_ok (x := x) ⟨hx.nn, hx.le⟩
  unfold GV GU
  cases ho : opV v with
  | true =>
    simp only [if_true]
    have l0 := Nat.le_of_dvd (Nat.mul_pos wp g1) d0
    have l1 := Nat.le_of_dvd (Nat.mul_pos wp (Nat.mul_pos g1 n1)) d1
    rw [Nat.pow_add, Nat.pow_add]
    refine ⟨Nat.le_trans l0 (Nat.mul_le_mul_left _ g3), Nat.le_trans l1 (Nat.mul_le_mul_left _ ?_)⟩
    rw [show 6 = 5 + 1 from rfl, Nat.pow_succ]
    exact Nat.mul_le_mul g3 n2
  | false =>
    have e := rest_nil hv hx ho
    have ec : rC v x = Rat.divInt (RSof v x).won (whB v x) := by unfold rC rF; rw [e]; rfl
    have eu : rU v x = Rat.divInt (RSof v x).uni (whB v x) := by unfold rU rF; rw [e]; rfl
    rw [ec, eu]
    simp only [Bool.false_eq_true, if_false, Nat.add_zero]
    exact ⟨Nat.le_of_dvd wp (dvd_divInt wp), Nat.le_of_dvd wp (dvd_divInt wp)⟩
def VOk (v : Lv) : Prop := EOk v ∧ oneB v = true
theorem vok_all {v : Lv} (hv : v ∈ lvAll) : VOk v := ⟨eok_all hv, oneB_all hv⟩
def chC (vs : List Lv) (x : Rat) : Rat := vs.foldl (fun x v => rC v x) x
/-- the sizes are in bounds, from a bound of the denominator on -/
def okD : List Lv → Nat → Prop
  | [], _ => True
  | v :: vs, d => d ^ CV v < B9 ∧ okD vs (d ^ GV v)
theorem okD_mono : ∀ {vs : List Lv} {d d' : Nat}, d' ≤ d → okD vs d → okD vs d'
  | [], _, _, _, _ => trivial
  | v :: vs, d, d', h, ⟨h1, h2⟩ => ⟨Nat.lt_of_le_of_lt (Nat.pow_le_pow_left h _) h1, okD_mono (Nat.pow_le_pow_left h _) h2⟩
theorem chC_unit : ∀ {vs : List Lv} {x : Rat}, (∀ v ∈ vs, VOk v) → (0 ≤ x.num ∧ x.num ≤ x.den) → okD vs x.den → 0 ≤ (chC vs x).num ∧ (chC vs x).num ≤ (chC vs x).den
  | [], x, _, h, _ => h
  | v :: vs, x, hv, h, ⟨h1, h2⟩ => by
    have c := cok h h1
    obtain ⟨a, b⟩ := hv v (by simp)
    exact chC_unit (vs := vs) (x := rC v x) (fun w hw => hv w (by simp [hw])) (rC_unit a b c) (okD_mono (den_grow a c).1 h2)
theorem chC_app {a b : List Lv} {x : Rat} : chC (a ++ b) x = chC b (chC a x) := List.foldl_append
theorem t_need_chance {n d : Int} {S : Sto} (h : 0 ≤ n ∧ n ≤ d) (hd : 1 ≤ d ∧ d ≤ 1000) : pureF f_need_chance [.tup [.int n, .int d]] S = .ok .non S := by
  refine pure_eq rfl ?_
  unfold f_need_chance fn b_need_chance
  have h1 := h.1
  have h2 := h.2
  have h3 := hd.1
  have h4 := hd.2
  simp [t_is_count, h1, h2, h3, h4]
  rfl
def chQ : FS := (sAsg 2 (fOp2 oIx (fCall (pureF f_round_of) (fCons (fVar 3) (fCons (fVar 2) (fNil)))) (fCon (.int 0))))
theorem t_chL {x0 x1 : D} {S : Sto} : ∀ (vs : List Lv) (x : Rat) (z : D), (∀ v ∈ vs, VOk v) → (0 ≤ x.num ∧ x.num ≤ x.den) → okD vs x.den →
    ∃ z', forL (tgName 3) chQ (vs.map Lv.D) [x0, x1, frD x, z] S = .nx [x0, x1, frD (chC vs x), z'] S
  | [], x, z, _, _, _ => ⟨z, rfl⟩
  | v :: vs, x, z, hv, h, ⟨h1, h2⟩ => by
    have c := cok h h1
    obtain ⟨a, b⟩ := hv v (by simp)
    obtain ⟨z', ih⟩ := t_chL (x0 := x0) (x1 := x1) (S := S) vs (rC v x) v.D (fun w hw => hv w (by simp [hw])) (rC_unit a b c) (okD_mono (den_grow a c).1 h2)
    have e := fun S => t_round_of a c (S := S)
    refine ⟨z', ?_⟩
    rw [List.map_cons, forL_cons (env1 := [x0, x1, frD x, v.D]) rfl]
    have e1 : chQ [x0, x1, frD x, v.D] S = .nx [x0, x1, frD (rC v x), v.D] S := by
      have ev : v.D = .tup [.int v.t, .int v.l, oI v.c] := rfl
      unfold chQ
      rw [ev] at e ⊢
      unfold frD at *
      simp [e]
    rw [e1]
    exact ih
theorem t_chanceD {vs : List Lv} {n d : Int} {S : Sto} (hf : Form vs) (hv : ∀ v ∈ vs, VOk v) (h : 0 ≤ n ∧ n ≤ d) (hd : 1 ≤ d ∧ d ≤ 1000) (ho : okD vs (Rat.divInt n d).den) : pureF f_chance [formD vs, .tup [.int n, .int d]] S = .ok (frD (chC vs (Rat.divInt n d))) S := by
  refine pure_eq (by simp [lowL, low_form']; rfl) ?_
  have e1 := fun S => t_need_form (S := S) hf
  have e2 := fun S => t_need_chance (S := S) h hd
  have e3 := fun S => t_lowest (n := n) (d := d) (S := S) (by omega) (by have := B9_pos; have := B9_B4; have : 1000 < B9 := Nat.lt_of_lt_of_le (show 1000 < 2 ^ 10 by decide) (Nat.pow_le_pow_right (by omega) (by omega)); omega) (Nat.lt_of_le_of_lt (gcd_le_abs (by omega)) (by have : 1000 < B9 := Nat.lt_of_lt_of_le (show 1000 < 2 ^ 10 by decide) (Nat.pow_le_pow_right (by omega) (by omega)); omega))
  have hu : 0 ≤ (Rat.divInt n d).num ∧ (Rat.divInt n d).num ≤ (Rat.divInt n d).den := by
    rw [Rat.num_divInt, Rat.den_divInt, if_neg (by omega), Int.sign_eq_one_of_pos (by omega), Int.one_mul]
    refine ⟨Int.ediv_nonneg h.1 (by omega), ?_⟩
    rw [Int.natCast_ediv]
    exact Int.ediv_le_ediv (by have : 0 < Int.gcd d n := Int.gcd_pos_of_ne_zero_left _ (by omega); omega) (by omega)
  obtain ⟨z', el⟩ := t_chL (x0 := formD vs) (x1 := .tup [.int n, .int d]) (S := []) vs (Rat.divInt n d) .und hv hu ho
  unfold f_chance fn b_chance
  change fnEnd false 0 (sSeq _ (sSeq _ (sSeq _ (sSeq (sFor _ _ chQ) _))) _ _) = _
  have ep : ∀ (r : Rat) S, fnEnd false 0 (.rt (frD r) S) = .ok (frD r) [] := fun r S => end_pl (n := 1) rfl (by omega)
  unfold frD at *
  simp [e1, e2, e3, el, ep]
theorem t_chance {vs : List Lv} {n d : Int} {S : Sto} (hf : Form vs) (hv : ∀ v ∈ vs, VOk v) (h : 0 ≤ n ∧ n ≤ d) (hd : 1 ≤ d ∧ d ≤ 1000) (ho : okD vs d.toNat) : pureF f_chance [formD vs, .tup [.int n, .int d]] S = .ok (frD (chC vs (Rat.divInt n d))) S :=
  t_chanceD hf hv h hd (okD_mono (by have := den_le (n := n) (d := d) (by omega); omega) ho)

end Sf
end

section
set_option Elab.async false
set_option maxRecDepth 100000
set_option linter.all false
set_option maxHeartbeats 4000000
namespace Sf
open PySem L2
/-! expectation of a form -/
def exM : List Lv → Rat → Rat → Rat
  | [], _, m => m
  | v :: vs, x, m => exM vs (rC v x) (m * rU v x)
def okE : List Lv → Nat → Nat → Prop
  | [], _, _ => True
  | v :: vs, d, k => d ^ CV v < B9 ∧ k * d ^ GU v < B9 ∧ okE vs (d ^ GV v) (k * d ^ GU v)
theorem okE_mono : ∀ {vs : List Lv} {d d' k k' : Nat}, d' ≤ d → k' ≤ k → okE vs d k → okE vs d' k'
  | [], _, _, _, _, _, _, _ => trivial
  | v :: vs, d, d', k, k', h, hk, ⟨h1, h2, h3⟩ =>
    have e := Nat.mul_le_mul hk (Nat.pow_le_pow_left h (GU v))
    ⟨Nat.lt_of_le_of_lt (Nat.pow_le_pow_left h _) h1, Nat.lt_of_le_of_lt e h2, okE_mono (Nat.pow_le_pow_left h _) e h3⟩
theorem den_mul_le (r s : Rat) : (r * s).den ≤ r.den * s.den := Nat.le_of_dvd (Nat.mul_pos r.den_pos s.den_pos) (dvd_mul r.den_pos s.den_pos (Nat.dvd_refl _) (Nat.dvd_refl _))
def exQ : FS := (sSeq (sAsgT [2, 5] (fCall (pureF f_round_of) (fCons (fVar 4) (fCons (fVar 2) (fNil)))))
    (sAsg 3 (fCall (pureF f_times) (fCons (fVar 3) (fCons (fVar 5) (fNil))))))
theorem t_exL {x0 x1 : D} {S : Sto} : ∀ (vs : List Lv) (x m : Rat) (i : Nat) (z4 z5 : D), (∀ v ∈ vs, VOk v) → (0 ≤ x.num ∧ x.num ≤ x.den) → okE vs x.den m.den → SmK m.num i → m.den < B9 → i + 19 * vs.length ≤ 91 →
    SmK (exM vs x m).num (i + 19 * vs.length) ∧ (exM vs x m).den < B9 ∧ ∃ z2 z4' z5', forL (tgName 4) exQ (vs.map Lv.D) [x0, x1, frD x, frD m, z4, z5] S = .nx [x0, x1, z2, frD (exM vs x m), z4', z5'] S
  | [], x, m, i, z4, z5, _, _, _, hm, hmd, _ => ⟨hm, hmd, frD x, z4, z5, rfl⟩
  | v :: vs, x, m, i, z4, z5, hv, h, ⟨h1, h2, h3⟩, hm, hmd, hi => by
    rw [List.length_cons] at hi
    have c := cok h h1
    obtain ⟨a, b⟩ := hv v (by simp)
    obtain ⟨g1, g2⟩ := den_grow a c
    obtain ⟨_, _, un⟩ := rC_den a c
    have hb : m.den * (rU v x).den ≤ m.den * x.den ^ GU v := Nat.mul_le_mul_left _ g2
    have e := fun S => t_round_of a c (S := S)
    have et := fun S => t_timesK (r := m) (s := rU v x) (S := S) hm un (by omega) (Nat.lt_of_le_of_lt hb h2)
    obtain ⟨i1, i2, z2, z4', z5', ih⟩ := t_exL (x0 := x0) (x1 := x1) (S := S) vs (rC v x) (m * rU v x) (i + 19) v.D (frD (rU v x)) (fun w hw => hv w (by simp [hw])) (rC_unit a b c) (okE_mono g1 (Nat.le_trans (den_mul_le _ _) hb) h3) (num_mulK hm un) (Nat.lt_of_le_of_lt (den_mul_le _ _) (Nat.lt_of_le_of_lt hb h2)) (by omega)
    refine ⟨by rw [List.length_cons, show i + 19 * (vs.length + 1) = i + 19 + 19 * vs.length by omega]; exact i1, i2, z2, z4', z5', ?_⟩
    rw [List.map_cons, forL_cons (env1 := [x0, x1, frD x, frD m, v.D, z5]) rfl]
    have e1 : exQ [x0, x1, frD x, frD m, v.D, z5] S = .nx [x0, x1, frD (rC v x), frD (m * rU v x), v.D, frD (rU v x)] S := by
      have ev : v.D = .tup [.int v.t, .int v.l, oI v.c] := rfl
      unfold exQ
      rw [ev] at e ⊢
      unfold frD at *
      simp [e, et]
    rw [e1]
    exact ih
theorem t_expectation {vs : List Lv} {n d : Int} {S : Sto} (hf : Form vs) (hv : ∀ v ∈ vs, VOk v) (h : 0 ≤ n ∧ n ≤ d) (hd : 1 ≤ d ∧ d ≤ 1000) (ho : okE vs d.toNat 1) : SmK (exM vs (Rat.divInt n d) 1).num (1 + 19 * vs.length) ∧ (exM vs (Rat.divInt n d) 1).den < B9 ∧ pureF f_expectation [formD vs, .tup [.int n, .int d]] S = .ok (frD (exM vs (Rat.divInt n d) 1)) S := by
  have k9 : 1000 < B9 := Nat.lt_of_lt_of_le (show 1000 < 2 ^ 10 by decide) (Nat.pow_le_pow_right (by omega) (by omega))
  have e1 := fun S => t_need_form (S := S) hf
  have e2 := fun S => t_need_chance (S := S) h hd
  have e3 := fun S => t_lowest (n := n) (d := d) (S := S) (by omega) (by have := B9_B4; omega) (Nat.lt_of_le_of_lt (gcd_le_abs (by omega)) (by omega))
  have hu : 0 ≤ (Rat.divInt n d).num ∧ (Rat.divInt n d).num ≤ (Rat.divInt n d).den := by
    rw [Rat.num_divInt, Rat.den_divInt, if_neg (by omega), Int.sign_eq_one_of_pos (by omega), Int.one_mul]
    refine ⟨Int.ediv_nonneg h.1 (by omega), ?_⟩
    rw [Int.natCast_ediv]
    exact Int.ediv_le_ediv (by have : 0 < Int.gcd d n := Int.gcd_pos_of_ne_zero_left _ (by omega); omega) (by omega)
  have hdn : (Rat.divInt n d).den ≤ d.toNat := by have := den_le (n := n) (d := d) (by omega); omega
  have fl := hf.2.1
  obtain ⟨i1, i2, z2, z4, z5, el⟩ := t_exL (x0 := formD vs) (x1 := .tup [.int n, .int d]) (S := []) vs (Rat.divInt n d) 1 1 .und .und hv hu (okE_mono hdn (Nat.le_refl _) ho) (SmK.lit (by decide)) (by have : (1 : Rat).den = 1 := rfl; omega) (by omega)
  refine ⟨i1, i2, pure_eq (by simp [lowL, low_form']; rfl) ?_⟩
  unfold f_expectation fn b_expectation
  change fnEnd false 0 (sSeq _ (sSeq _ (sSeq _ (sSeq (sFor _ _ exQ) _))) _ _) = _
  have ep : ∀ (r : Rat) S, fnEnd false 0 (.rt (frD r) S) = .ok (frD r) [] := fun r S => end_pl (n := 1) rfl (by omega)
  have o1 : (1 : Rat).num = 1 := rfl
  have o2 : (1 : Rat).den = 1 := rfl
  unfold frD at *
  rw [o1, o2] at el
  have el : forL (tgName 4) exQ (vs.map Lv.D) [formD vs, .tup [.int n, .int d], .tup [.int (Rat.divInt n d).num, .int (Rat.divInt n d).den], .tup [.int 1, .int 1], .und, .und] [] = _ := el
  simp [e1, e2, e3, el, ep]
theorem exM_app : ∀ {a b : List Lv} {x m : Rat}, exM (a ++ b) x m = exM b (chC a x) (exM a x m)
  | [], b, x, m => rfl
  | v :: a, b, x, m => by
    show exM (a ++ b) (rC v x) (m * rU v x) = exM b (chC a (rC v x)) (exM a (rC v x) (m * rU v x))
    exact exM_app
theorem exM_mul : ∀ {a : List Lv} {x m k : Rat}, exM a x (k * m) = k * exM a x m
  | [], x, m, k => rfl
  | v :: a, x, m, k => by
    show exM a (rC v x) (k * m * rU v x) = k * exM a (rC v x) (m * rU v x)
    rw [Rat.mul_assoc, exM_mul]
/-! the sizes of drawn forms -/
theorem cv_le {v : Lv} {m : Int} (hv : v ∈ lvAll) (h : v.t ≤ m) (hm : m = 2 ∨ m = 3 ∨ m = 4) : CV v ≤ (if m = 2 then 22 else if m = 3 then 26 else 30) ∧ GV v ≤ (if m = 2 then 10 else if m = 3 then 12 else 14) ∧ GU v ≤ (if m = 2 then 11 else if m = 3 then 13 else 15) := by
  have key : (lvAll.all fun v => [2, 3, 4].all fun m : Int => !decide (v.t ≤ m) || (Nat.ble (CV v) (if m = 2 then 22 else if m = 3 then 26 else 30) && Nat.ble (GV v) (if m = 2 then 10 else if m = 3 then 12 else 14) && Nat.ble (GU v) (if m = 2 then 11 else if m = 3 then 13 else 15))) = true := by decide +kernel
  have k := List.all_eq_true.mp (all_ok key hv) m (by simp; omega)
  rw [decide_eq_true h] at k
  simp only [Bool.not_true, Bool.false_or, Bool.and_eq_true] at k
  exact ⟨Nat.le_of_ble_eq_true k.1.1, Nat.le_of_ble_eq_true k.1.2, Nat.le_of_ble_eq_true k.2⟩
/-- sizes with bounds for all levels -/
def szB : Nat → Nat → Nat → Nat → Nat → Nat → Bool
  | 0, _, _, _, _, _ => true
  | n + 1, d, k, c, g, u => decide (d ^ c < 2 ^ 9000) && decide (k * d ^ u < 2 ^ 9000) && szB n (d ^ g) (k * d ^ u) c g u
theorem sz_ok : ∀ {n : Nat} {vs : List Lv} {d k c g u : Nat}, vs.length ≤ n → 1 ≤ d → (∀ v ∈ vs, CV v ≤ c ∧ GV v ≤ g ∧ GU v ≤ u) → szB n d k c g u = true → okE vs d k ∧ okD vs d
  | _, [], _, _, _, _, _, _, _, _, _ => ⟨trivial, trivial⟩
  | 0, v :: vs, _, _, _, _, _, h, _, _, _ => absurd h (by simp)
  | n + 1, v :: vs, d, k, c, g, u, hl, hd, h, hs => by
    unfold szB at hs
    rw [Bool.and_eq_true, Bool.and_eq_true] at hs
    obtain ⟨⟨s1, s2⟩, s3⟩ := hs
    have s1 : d ^ c < B9 := of_decide_eq_true s1
    have s2 : k * d ^ u < B9 := of_decide_eq_true s2
    obtain ⟨a1, a2, a3⟩ := h v (by simp)
    obtain ⟨i1, i2⟩ := sz_ok (n := n) (vs := vs) (by simpa using hl) (Nat.pow_pos hd) (fun w hw => h w (by simp [hw])) s3
    have g1 : d ^ GV v ≤ d ^ g := Nat.pow_le_pow_right hd a2
    have u1 : k * d ^ GU v ≤ k * d ^ u := Nat.mul_le_mul_left _ (Nat.pow_le_pow_right hd a3)
    have c1 : d ^ CV v < B9 := pow_small hd s1 a1
    exact ⟨⟨c1, Nat.lt_of_le_of_lt u1 s2, okE_mono g1 u1 i1⟩, ⟨c1, okD_mono g1 i2⟩⟩
theorem sz3 : szB 3 15 1 22 10 11 = true := by decide +kernel
theorem sz2 : szB 2 1000 1 30 14 15 = true := by decide +kernel

end Sf
end

section
set_option Elab.async false
set_option maxRecDepth 100000
set_option linter.all false
set_option maxHeartbeats 4000000
namespace Sf
open PySem L2
/-! plain: the sides exchanged, for chances -/
theorem one_sub_num (x : Rat) : (1 - x).num = x.den - x.num ∧ (1 - x).den = x.den := by
  have e : 1 - x = Rat.divInt (x.den - x.num) x.den := by
    rw [Rat.divInt_eq_div, Rat.intCast_sub, rat_self, Rat.intCast_natCast]
    have : ((x.den : Nat) : Rat) ≠ 0 := by rw [Ne, Rat.natCast_eq_zero_iff]; exact x.den_nz
    generalize ((x.den : Nat) : Rat) = d at *
    grind
  have hg : Int.gcd (x.den : Int) (x.den - x.num) = 1 := by
    have h := x.reduced
    unfold Nat.Coprime at h
    have h1 : Int.gcd x.num (x.den : Int) = 1 := h
    rw [Int.gcd_comm]
    have h2 : Int.gcd ((x.den : Int) - x.num) x.den ∣ Int.gcd x.num x.den := by
      refine Int.dvd_gcd ?_ ?_
      · have a := Int.gcd_dvd_left ((x.den : Int) - x.num) x.den
        have b := Int.gcd_dvd_right ((x.den : Int) - x.num) x.den
        have := Int.dvd_sub b a
        rwa [show (x.den : Int) - (x.den - x.num) = x.num by omega] at this
      · exact Int.gcd_dvd_right ..
    rw [h1] at h2
    exact Nat.dvd_one.mp h2
  rw [e, Rat.num_divInt, Rat.den_divInt, hg, if_neg (by have := x.den_nz; omega)]
  rw [Int.sign_eq_one_of_pos (by have := x.den_pos; omega)]
  simp
theorem gI_sym (p q : Int) : ∀ n : Nat, gI n p q = gI n q p
  | 0 => rfl
  | n + 1 => by
    have h1 := gI_add p q 1 n
    have h2 : gI (n + 1) q p = q * gI n q p + p ^ n := rfl
    have h3 : gI 1 p q = 1 := by simp [gI]
    rw [h1, h2, h3, gI_sym p q n, Int.pow_one]
    omega
theorem walkW_sym {x : Rat} {l : Nat} {k : Int} (hx : 0 ≤ x.num ∧ x.num ≤ x.den) (hl : 1 ≤ l) (hk : -l < k ∧ k < l) : walkW l (-k) (1 - x) = 1 - walkW l k x := by
  obtain ⟨e1, e2⟩ := one_sub_num x
  have dp := x.den_pos
  rw [walkW_eq (x := x) hx hl hk, walkW_eq (x := 1 - x) (by rw [e1, e2]; omega) hl (by omega), e1, e2]
  have eq : (x.den : Int) - (x.den - x.num) = x.num := by omega
  rw [eq]
  have d1 : wDn l (-k) = wUp l k := by unfold wDn wUp; omega
  have d2 : wUp l (-k) = wDn l k := by unfold wDn wUp; omega
  rw [d1, d2]
  have hG := gI_pos (p := x.num) (q := x.den - x.num) hx.1 (by omega) (by omega) (2 * l - 1)
  rw [show 2 * l - 1 + 1 = 2 * l by omega] at hG
  have ha := gI_add x.num (x.den - x.num) (wUp l k) (wDn l k)
  rw [show wDn l k + wUp l k = 2 * l by unfold wDn wUp; omega] at ha
  rw [gI_sym (x.den - x.num) x.num (2 * l), gI_sym (x.den - x.num) x.num (wDn l k)]
  generalize gI (2 * l) x.num (x.den - x.num) = G at *
  generalize x.num ^ wDn l k * gI (wUp l k) x.num (x.den - x.num) = A at *
  generalize (x.den - x.num) ^ wUp l k * gI (wDn l k) x.num (x.den - x.num) = B at *
  rw [Rat.divInt_eq_div, Rat.divInt_eq_div]
  have hg : (G : Rat) ≠ 0 := by rw [Ne, Rat.intCast_eq_zero_iff]; omega
  have hr : (G : Rat) = (A : Rat) + (B : Rat) := by rw [ha, Rat.intCast_add]
  generalize (G : Rat) = g at *
  generalize (A : Rat) = a at *
  generalize (B : Rat) = b at *
  grind
theorem walkE_sym {x : Rat} {l : Nat} {k : Int} (hx : 0 ≤ x.num ∧ x.num ≤ x.den) (hl : 1 ≤ l) (hk : -l < k ∧ k < l) : walkE l (-k) (1 - x) = walkE l k x := by
  obtain ⟨e1, e2⟩ := one_sub_num x
  have eq : (x.den : Int) - (x.den - x.num) = x.num := by omega
  unfold walkE
  rw [walkW_sym hx hl hk, e1, e2, eq]
  by_cases h : x.num = x.den - x.num
  · rw [if_pos h, if_pos h.symm]
    congr 1
    rw [Int.mul_comm]
    congr 1 <;> omega
  · rw [if_neg h, if_neg (fun e => h e.symm)]
    rw [Rat.divInt_eq_div, Rat.divInt_eq_div]
    have hg : ((x.num - (x.den - x.num) : Int) : Rat) ≠ 0 := by rw [Ne, Rat.intCast_eq_zero_iff]; omega
    have hn : ((x.den - x.num - x.num : Int) : Rat) = -((x.num - (x.den - x.num) : Int) : Rat) := by
      rw [← Rat.intCast_neg]; congr 1; omega
    rw [hn]
    simp only [Rat.intCast_add, Rat.intCast_neg, Rat.intCast_natCast]
    generalize ((x.num - (x.den - x.num) : Int) : Rat) = g at *
    generalize walkW l k x = w
    generalize ((x.den : Nat) : Rat) = d
    generalize ((l : Nat) : Rat) = L
    generalize (k : Rat) = K
    clear hn
    have : (-g) ≠ 0 := by grind
    grind
def swE (e : EnE) : EnE := ((e.1.2, e.1.1), e.2)
def symB (v : Lv) : Bool := ((endsV v).map swE).isPerm (endsV v) && (endsV v).all fun e => decide (rwM v (swE e).1 = (rwM v e.1).map (1 - ·)) && (match rwM v e.1 with
  | some k => decide (k = 0) || decide (k = 1)
  | none => true)
theorem sum_perm {α : Type} {f : α → Rat} {a b : List α} (h : a.Perm b) : (a.map f).sum = (b.map f).sum := by
  induction h with
  | nil => rfl
  | cons x _ ih => rw [List.map_cons, List.map_cons, List.sum_cons, List.sum_cons, ih]
  | swap x y l => simp only [List.map_cons, List.sum_cons]; grind
  | trans _ _ i1 i2 => rw [i1, i2]
theorem cok_sym {v : Lv} {x : Rat} (hx : COk v x) : COk v (1 - x) := by
  obtain ⟨e1, e2⟩ := one_sub_num x
  have := hx.nn
  have := hx.le
  exact ⟨by rw [e1]; omega, by rw [e1, e2]; omega, by rw [e2]; exact hx.d1, by rw [e2]; exact hx.d2⟩
theorem rC_sym {v : Lv} (hv : EOk v) (h1 : oneB v = true) (hs : symB v = true) {x : Rat} (hx : COk v x) : rC v (1 - x) = 1 - rC v x ∧ rU v (1 - x) = rU v x := by
  unfold symB at hs
  rw [Bool.and_eq_true] at hs
  have hp : ((endsV v).map swE).Perm (endsV v) := List.isPerm_iff.mp hs.1
  have hr := fun e he => List.all_eq_true.mp hs.2 e he
  obtain ⟨c1, u1⟩ := rC_eq hv hx
  obtain ⟨c2, u2⟩ := rC_eq hv (cok_sym hx)
  have hl := hv.l
  have wsym : ∀ e, wR (1 - x) (swE e) = wR x e := fun e => by
    unfold wR swE
    simp only
    have : 1 - (1 - x) = x := by grind
    rw [this]
    generalize x ^ e.1.1.toNat = a
    generalize (1 - x) ^ e.1.2.toNat = b
    grind
  have fC : ∀ e ∈ endsV v, facC v (1 - x) (swE e) = 1 - facC v x e := fun e he => by
    have h := hr e he
    rw [Bool.and_eq_true] at h
    have h2 := of_decide_eq_true h.1
    have h3 := h.2
    unfold facC
    rw [h2]
    cases hq : rwM v e.1 with
    | some k =>
      rw [hq] at h3
      simp only [Option.map_some]
      have : k = 0 ∨ k = 1 := by simpa using h3
      rcases this with rfl | rfl
      · simp only [if_true]; rw [if_neg (by decide)]; grind
      · rw [if_pos (by decide), if_neg (by decide)]; grind
    | none =>
      simp only [Option.map_none]
      have ho := hv.open' e he hq
      have := walkW_sym (x := x) (l := v.l.toNat) (k := e.1.1 - e.1.2) ⟨hx.nn, hx.le⟩ (by omega) (by omega)
      rw [show -(e.1.1 - e.1.2) = (swE e).1.1 - (swE e).1.2 by unfold swE; simp only; omega] at this
      exact this
  have fU : ∀ e ∈ endsV v, facU v (1 - x) (swE e) = facU v x e := fun e he => by
    have h := hr e he
    rw [Bool.and_eq_true] at h
    have h2 := of_decide_eq_true h.1
    unfold facU
    rw [h2]
    have ea : (swE e).1.1 + (swE e).1.2 = e.1.1 + e.1.2 := by unfold swE; simp only; omega
    rw [ea]
    cases hq : rwM v e.1 with
    | some k => simp only [Option.map_some]
    | none =>
      simp only [Option.map_none]
      have ho := hv.open' e he hq
      have := walkE_sym (x := x) (l := v.l.toNat) (k := e.1.1 - e.1.2) ⟨hx.nn, hx.le⟩ (by omega) (by omega)
      rw [show -(e.1.1 - e.1.2) = (swE e).1.1 - (swE e).1.2 by unfold swE; simp only; omega] at this
      rw [this]
  have one := one_sum h1 (x := x)
  constructor
  · rw [c2, c1, ← sum_perm hp, List.map_map]
    have key : ∀ l : List EnE, (∀ e ∈ l, e ∈ endsV v) → (l.map ((fun e => wR (1 - x) e * facC v (1 - x) e) ∘ swE)).sum = (l.map (wR x)).sum - (l.map fun e => wR x e * facC v x e).sum := by
      intro l
      induction l with
      | nil => intro _; simp only [List.map_nil, List.sum_nil]; grind
      | cons e l ih =>
        intro hm
        simp only [List.map_cons, List.sum_cons]
        rw [ih fun e he => hm e (by simp [he])]
        simp only [Function.comp]
        rw [wsym, fC e (hm e (by simp))]
        grind
    rw [key _ fun e he => he, one]
  · rw [u2, u1, ← sum_perm hp, List.map_map]
    congr 1
    apply List.map_congr_left
    intro e he
    simp only [Function.comp]
    rw [wsym, fU e he]
theorem sym_all {v : Lv} (hv : v ∈ lvAll) : symB v = true := all_ok (p := symB) (by decide +kernel) hv

end Sf
end

section
set_option Elab.async false
set_option maxRecDepth 100000
set_option linter.all false
set_option maxHeartbeats 4000000
namespace Sf
open PySem L2
/-! sizes of forms that are asked; small facts of equality -/
theorem okD_app : ∀ {a b : List Lv} {d : Nat}, okD (a ++ b) d → okD a d
  | [], b, d, _ => trivial
  | v :: a, b, d, ⟨h1, h2⟩ => ⟨h1, okD_app h2⟩
theorem okE_app : ∀ {a b : List Lv} {d k : Nat}, okE (a ++ b) d k → okE a d k
  | [], b, d, k, _ => trivial
  | v :: a, b, d, k, ⟨h1, h2, h3⟩ => ⟨h1, h2, okE_app h3⟩
/-- the sizes of a form that is asked -/
structure SzOk (vs : List Lv) (d : Nat) : Prop where
  e : okE vs d 1
  d : okD vs d
theorem sz_two {vs : List Lv} (ha : ∀ v ∈ vs, v ∈ lvAll) (h : vs.length ≤ 2) : SzOk vs 1000 := by
  obtain ⟨a, b⟩ := sz_ok h (by omega) (fun v hv => by
    have := cv_le (m := 4) (ha v hv) (by
      have := List.all_eq_true.mp (show (lvAll.all fun v => decide (v.t ≤ 4)) = true by decide +kernel) v (ha v hv)
      exact of_decide_eq_true this) (.inr (.inr rfl))
    simpa using this) sz2
  exact ⟨a, b⟩
theorem SzOk.mono {vs : List Lv} {d d' : Nat} (h : SzOk vs d) (hd : d' ≤ d) : SzOk vs d' := ⟨okE_mono hd (Nat.le_refl _) h.e, okD_mono hd h.d⟩
theorem Drawn.sz {vs : List Lv} (hd : Drawn vs) : SzOk vs 15 := by
  have ha := hd.all
  by_cases h3 : vs.length = 3
  · have : ∀ v ∈ vs, v.t ≤ 2 := fun v hv => by
      have := (hd.2.2 v hv).2.1
      unfold mostT at this
      rw [h3] at this
      simpa using this
    obtain ⟨a, b⟩ := sz_ok (n := 3) (vs := vs) (d := 15) (k := 1) (c := 22) (g := 10) (u := 11) (by omega) (by omega) (fun v hv => by have := cv_le (m := 2) (ha v hv) (this v hv) (.inl rfl); simpa using this) sz3
    exact ⟨a, b⟩
  · exact (sz_two ha (by have := hd.2.1; omega)).mono (by omega)
theorem nInt (i : Int) (S : Sto) : oNe (.int i) (.int i) S = some (.bl false, S) := oNe_self (n := 0) rfl (by omega)
theorem nNon (S : Sto) : oNe .non .non S = some (.bl false, S) := oNe_self (n := 0) rfl (by omega)
theorem nOpt (o : Option Int) (S : Sto) : oNe (oI o) (oI o) S = some (.bl false, S) := oNe_self (n := 0) (by cases o <;> rfl) (by omega)
theorem nFr (r : Rat) (S : Sto) : oNe (frD r) (frD r) S = some (.bl false, S) := oNe_self (n := 2) rfl (by omega)
theorem nSt (st : List Pr) (S : Sto) : oNe (stD st) (stD st) S = some (.bl false, S) := oNe_self (n := 4) (by
    show plL 3 (st.map prD) = true
    exact plL_map prD (fun p => rfl) st) (by omega)
theorem nRow (rs : List Int) (S : Sto) : oNe (rowD rs) (rowD rs) S = some (.bl false, S) := oNe_self (n := 1) (plL_ints rs) (by omega)
theorem seq_nx {a b : FS} {env env' : En} {S S' : Sto} {r : SR} (h : a env S = .nx env' S') (h2 : b env' S' = r) : sSeq a b env S = r := by
  show (a env S).bindN b = r
  rw [h]; exact h2
theorem rat_back (u : Rat) : Rat.divInt u.num u.den = u := Rat.num_divInt_den u
theorem divInt_unit {n d : Int} (h : 0 ≤ n ∧ n ≤ d) (hd : 1 ≤ d) : (0 ≤ (Rat.divInt n d).num ∧ (Rat.divInt n d).num ≤ (Rat.divInt n d).den) ∧ (Rat.divInt n d).den ≤ d.toNat := by
  refine ⟨?_, by have := den_le (n := n) (d := d) (by omega); omega⟩
  rw [Rat.num_divInt, Rat.den_divInt, if_neg (by omega), Int.sign_eq_one_of_pos (by omega), Int.one_mul]
  refine ⟨Int.ediv_nonneg h.1 (by omega), ?_⟩
  rw [Int.natCast_ediv]
  exact Int.ediv_le_ediv (by have : 0 < Int.gcd d n := Int.gcd_pos_of_ne_zero_left _ (by omega); omega) (by omega)

end Sf
end

section
set_option Elab.async false
set_option maxRecDepth 100000
set_option linter.all false
set_option maxHeartbeats 4000000
namespace Sf
open PySem L2
/-! the program's surplus -/
def decRow : D → List Int
  | .lst l => (intsD l).getD []
  | _ => []
def rndsV (v : Lv) : List (List Int) := match f_rounds [v.D] [] with
  | .ok (.lst l) [] => l.map decRow
  | _ => []
theorem low_lvx {v : Lv} : lowL 0 [v.D] = true := by simp [lowL, low_Lv]
theorem t_rounds {v : Lv} {S : Sto} (hv : v ∈ lvAll) : pureF f_rounds [v.D] S = .ok (.lst ((rndsV v).map rowD)) S := by
  have h : (lvAll.all fun v => chk (f_rounds [v.D] []) (.lst ((rndsV v).map rowD))) = true := by decide +kernel
  exact pure_eq low_lvx (chk_ok (all_ok h hv))
/-- every path is a round -/
def pathOk (v : Lv) (p : List Int) : Bool := (match rwM v (cntP p) with
  | some s => decide (s = 0 ∨ s = 1) && mtB [v] s p
  | none => false)
theorem paths_ok {v : Lv} (hv : v ∈ lvAll) {p : List Int} (hp : p ∈ rndsV v) : ∃ s, (s = 0 ∨ s = 1) ∧ rwM v (cntP p) = some s ∧ Mt [v] s p ∧ Sides p ∧ p.length ≤ 20 := by
  have h : (lvAll.all fun v => (rndsV v).all fun p => pathOk v p && Nat.ble p.length 20) = true := by decide +kernel
  have h := List.all_eq_true.mp (all_ok h hv) p hp
  rw [Bool.and_eq_true] at h
  have h2 := Nat.le_of_ble_eq_true h.2
  have h := h.1
  unfold pathOk at h
  cases hq : rwM v (cntP p) with
  | none => rw [hq] at h; cases h
  | some s =>
    rw [hq] at h
    simp only [Bool.and_eq_true, decide_eq_true_eq] at h
    obtain ⟨m1, m2⟩ := mt_of h.2
    exact ⟨s, h.1, rfl, m1, m2, h2⟩
theorem paths_some {v : Lv} (hv : v ∈ lvAll) {s : Int} (hs : s = 0 ∨ s = 1) : ∃ p ∈ rndsV v, rwM v (cntP p) = some s := by
  have h : (lvAll.all fun v => [0, 1].all fun s => (rndsV v).any fun p => decide (rwM v (cntP p) = some s)) = true := by decide +kernel
  have h := List.all_eq_true.mp (all_ok h hv) s (by simp; omega)
  obtain ⟨p, hp, h⟩ := List.any_eq_true.mp h
  exact ⟨p, hp, of_decide_eq_true h⟩
theorem rnds_len {v : Lv} (hv : v ∈ lvAll) : (rndsV v).length ≤ 200 := by
  have h : (lvAll.all fun v => Nat.ble (rndsV v).length 200) = true := by decide +kernel
  exact Nat.le_of_ble_eq_true (all_ok h hv)
abbrev Un := (Int × Int) × (Int × Int)
def uOf (u : Un) (x : Int) : Int × Int := if x = 0 then u.1 else u.2
def valW (u : Un) (p : List Int) : Int := (p.map fun x => (uOf u x).1).sum
def ptsW (u : Un) (p : List Int) : Int := (p.map fun x => (uOf u x).2).sum
abbrev BR := Int × Int × List Int
def betB (a b : Int × Int) : Bool := decide (a.1 < b.1) || (decide (a.1 = b.1) && decide (a.2 < b.2))
def stepQ (v : Lv) (u : Un) (s : Int) (o : Option BR) (p : List Int) : Option BR :=
  if rwM v (cntP p) = some s then (match o with
    | none => some (-valW u p, ptsW u p, p)
    | some b => if betB (-valW u p, ptsW u p) (b.1, b.2.1) = true then some (-valW u p, ptsW u p, p) else some b) else o
def bestQ (v : Lv) (u : Un) (s : Int) : Option BR := (rndsV v).foldl (stepQ v u s) none
theorem stepQ_fold {v : Lv} {u : Un} {s : Int} : ∀ (l : List (List Int)) (o : Option BR),
    (∀ b, o = some b → ∃ c, l.foldl (stepQ v u s) o = some c ∧ betB (b.1, b.2.1) (c.1, c.2.1) = false) ∧
    (∀ p ∈ l, rwM v (cntP p) = some s → ∃ c, l.foldl (stepQ v u s) o = some c ∧ betB (-valW u p, ptsW u p) (c.1, c.2.1) = false) ∧
    (∀ c, l.foldl (stepQ v u s) o = some c → o = some c ∨ (c.2.2 ∈ l ∧ rwM v (cntP c.2.2) = some s ∧ c.1 = -valW u c.2.2 ∧ c.2.1 = ptsW u c.2.2))
  | [], o => ⟨fun b h => ⟨b, h, by simp [betB]⟩, by simp, fun c h => .inl h⟩
  | p :: l, o => by
    have tr : ∀ a b c : Int × Int, betB a b = false → betB b c = false → betB a c = false := fun a b c h1 h2 => by
      unfold betB at *
      simp at *
      omega
    have rf : ∀ a : Int × Int, betB a a = false := fun a => by simp [betB]
    have as : ∀ a b : Int × Int, betB a b = true → betB b a = false := fun a b h => by unfold betB at *; simp at *; omega
    obtain ⟨i1, i2, i3⟩ := stepQ_fold (v := v) (u := u) (s := s) l (stepQ v u s o p)
    rw [List.foldl_cons]
    have key : (∀ b, o = some b → ∃ c, stepQ v u s o p = some c ∧ betB (b.1, b.2.1) (c.1, c.2.1) = false) ∧ (rwM v (cntP p) = some s → ∃ c, stepQ v u s o p = some c ∧ betB (-valW u p, ptsW u p) (c.1, c.2.1) = false) ∧
        (∀ c, stepQ v u s o p = some c → o = some c ∨ (c.2.2 = p ∧ rwM v (cntP c.2.2) = some s ∧ c.1 = -valW u c.2.2 ∧ c.2.1 = ptsW u c.2.2)) := by
      unfold stepQ
      by_cases h : rwM v (cntP p) = some s
      · rw [if_pos h]
        cases o with
        | none => exact ⟨fun b h => (by cases h), fun _ => ⟨_, rfl, rf _⟩, fun c hc => .inr (by cases hc; exact ⟨rfl, h, rfl, rfl⟩)⟩
        | some b =>
          simp only
          by_cases hb : betB (-valW u p, ptsW u p) (b.1, b.2.1) = true
          · rw [if_pos hb]
            exact ⟨fun b' e => (by cases e; exact ⟨_, rfl, as _ _ hb⟩), fun _ => ⟨_, rfl, rf _⟩, fun c hc => .inr (by cases hc; exact ⟨rfl, h, rfl, rfl⟩)⟩
          · rw [if_neg hb]
            exact ⟨fun b' e => (by cases e; exact ⟨_, rfl, rf _⟩), fun _ => ⟨_, rfl, by simpa using hb⟩, fun c hc => .inl hc⟩
      · rw [if_neg h]
        exact ⟨fun b e => ⟨b, e, rf _⟩, fun z => absurd z h, fun c hc => .inl hc⟩
    obtain ⟨k1, k2, k3⟩ := key
    refine ⟨fun b hb => ?_, fun q hq hr => ?_, fun c hc => ?_⟩
    · obtain ⟨c, hc, h⟩ := k1 b hb
      obtain ⟨d, hd, h'⟩ := i1 c hc
      exact ⟨d, hd, tr _ _ _ h h'⟩
    · rcases List.mem_cons.mp hq with rfl | hq
      · obtain ⟨c, hc, h⟩ := k2 hr
        obtain ⟨d, hd, h'⟩ := i1 c hc
        exact ⟨d, hd, tr _ _ _ h h'⟩
      · exact i2 q hq hr
    · rcases i3 c hc with h | ⟨h1, h2⟩
      · rcases k3 c h with h | ⟨h1, h2⟩
        · exact .inl h
        · exact .inr ⟨by rw [h1]; simp, h2⟩
      · exact .inr ⟨by simp [h1], h2⟩
/-- the best path of a level -/
structure BestOk (v : Lv) (u : Un) (s : Int) (b : BR) : Prop where
  mem : b.2.2 ∈ rndsV v
  win : rwM v (cntP b.2.2) = some s
  val : b.1 = -valW u b.2.2
  pts : b.2.1 = ptsW u b.2.2
  best : ∀ p ∈ rndsV v, rwM v (cntP p) = some s → betB (-valW u p, ptsW u p) (b.1, b.2.1) = false
theorem bestQ_ok {v : Lv} {u : Un} {s : Int} (hv : v ∈ lvAll) (hs : s = 0 ∨ s = 1) : ∃ b, bestQ v u s = some b ∧ BestOk v u s b := by
  obtain ⟨h1, h2, h3⟩ := stepQ_fold (v := v) (u := u) (s := s) (rndsV v) none
  obtain ⟨p, hp, hw⟩ := paths_some hv hs
  obtain ⟨b, hb, _⟩ := h2 p hp hw
  refine ⟨b, hb, ?_⟩
  obtain ⟨a1, a2, a3, a4⟩ := (h3 b hb).resolve_left (by simp)
  exact ⟨a1, a2, a3, a4, fun q hq hr => by obtain ⟨c, hc, h⟩ := h2 q hq hr; rw [hb] at hc; cases hc; exact h⟩
def unD (u : Un) : D := .tup [.tup [.int u.1.1, .int u.1.2], .tup [.int u.2.1, .int u.2.2]]
def brD (b : BR) : D := .tup [.int b.1, .int b.2.1, rowD b.2.2]
def oBR : Option BR → D
  | some b => brD b
  | none => .non
def brB : FS := (sIf (tVal (fOp2 oEq (fCall (pureF f_round_winner) (fCons (fVar 0) (fCons (fTup (fCons (fMethL mCount (fVar 4) (fCons (fCon (.int 0)) (fNil))) (fCons (fMethL mCount (fVar 4) (fCons (fCon (.int 1)) (fNil))) (fNil)))) (fNil)))) (fIf (tVal (fVar 1)) (fCon (.int 0)) (fCon (.int 1))))) (sSeq (sAsg 5 (fOpN oSum (fCons (fComp false (iSq (fVar 4)) (tgName 7) (tYesF) (fOp2 oIx (fOp2 oIx (fVar 2) (fVar 7)) (fCon (.int 0))) [7]) (fNil))))
    (sSeq (sAsg 6 (fOpN oSum (fCons (fComp false (iSq (fVar 4)) (tgName 7) (tYesF) (fOp2 oIx (fOp2 oIx (fVar 2) (fVar 7)) (fCon (.int 1))) [7]) (fNil))))
    (sIf (Sf.tOr (tVal (fOp2 oIs (fVar 3) (fCon .non))) (tVal (fOp2 oLt (fTup (fCons (fOp1 oNeg (fVar 5)) (fCons (fVar 6) (fNil)))) (fCut false (fVar 3) (fNoPart) (fPart (fCon (.int 2))))))) (sAsg 3 (fTup (fCons (fOp1 oNeg (fVar 5)) (fCons (fVar 6) (fCons (fVar 4) (fNil)))))) (sSkip)))) (sSkip))
theorem sum_ints {l : List Int} {S : Sto} : oSum [.lst (l.map D.int)] S = some (.int l.sum, S) := by
  show (match lsR (.lst (l.map D.int)) S with
    | some l => match intsD l with
      | some ns => some (D.int ns.sum, S)
      | _ => none
    | none => none) = _
  have e : lsR (.lst (l.map D.int)) S = some (l.map D.int) := rfl
  rw [e]; simp only; rw [intsD_ints]
theorem lt_pair {a b c d : Int} {S : Sto} : oLt (.tup [.int a, .int b]) (.tup [.int c, .int d]) S = some (.bl (betB (a, b) (c, d)), S) := by
  have e : HT.lexLt [a, b] [c, d] = betB (a, b) (c, d) := by
    unfold betB
    simp only [HT.lexLt]
    by_cases h1 : a = c
    · subst h1
      by_cases h2 : b = d
      · subst h2; simp
      · simp [h2]
    · simp [h1]
  show (match intsD [.int a, .int b], intsD [.int c, .int d] with
    | some ns, some ms => some (D.bl (HT.lexLt ns ms), S)
    | _, _ => none) = _
  rw [← e]; rfl
theorem cut2 {a b c : D} {S : Sto} : oCut false (.tup [a, b, c]) none (some 2) S = some (.tup [a, b], S) := rfl
theorem t_brB {v : Lv} {u : Un} {w : Bool} {s : Int} {p : List Int} {o : Option BR} {x5 x6 x7 : D} (hw : s = if w = true then 0 else 1) (hp : Sides p) (hl : p.length ≤ 20) :
    ∃ y5 y6 y7, brB [v.D, .bl w, unD u, oBR o, rowD p, x5, x6, x7] [] = .nx [v.D, .bl w, unD u, oBR (stepQ v u s o p), rowD p, y5, y6, y7] [] := by
  have e1 := fun S => t_rw (v := v) (p := cntP p) (S := S)
  have c0 := fun S => count_row (l := p) (k := 0) (S := S)
  have c1 := fun S => count_row (l := p) (k := 1) (S := S)
  have il : ∀ S, isLs (rowD p) S = true := fun _ => rfl
  have fl : fit p.length = true := fit_of (by omega)
  have cm : ∀ (k : Int) (f : Int × Int → Int) (a b c : D), (∀ q : Int × Int, ixD [.int q.1, .int q.2] k = some (.int (f q))) → compL (tgName 7) tYesF (fOp2 oIx (fOp2 oIx (fVar 2) (fVar 7)) (fCon (.int k))) [v.D, .bl w, unD u, a, rowD p, b, c, .und] (p.map D.int) [] = .ok ((p.map fun x => f (uOf u x)).map D.int) [] := fun k f a b c hk => by
    have := comp_map D.int (fun x => D.int (f (uOf u x))) (fOp2 oIx (fOp2 oIx (fVar 2) (fVar 7)) (fCon (.int k))) [v.D, .bl w, unD u, a, rowD p, b, c, .und] 7 [] p fun x hx => by
      rcases hp x hx with rfl | rfl
      · simp [unD, uOf, hk]
      · simp [unD, uOf, hk]
    rw [this, List.map_map]; rfl
  have s0 : ∀ a b c, compL (tgName 7) tYesF (fOp2 oIx (fOp2 oIx (fVar 2) (fVar 7)) (fCon (.int 0))) [v.D, .bl w, unD u, a, rowD p, b, c, .und] (p.map D.int) [] = .ok ((p.map fun x => (uOf u x).1).map D.int) [] := fun a b c => cm 0 Prod.fst a b c fun q => rfl
  have s1 : ∀ a b c, compL (tgName 7) tYesF (fOp2 oIx (fOp2 oIx (fVar 2) (fVar 7)) (fCon (.int 1))) [v.D, .bl w, unD u, a, rowD p, b, c, .und] (p.map D.int) [] = .ok ((p.map fun x => (uOf u x).2).map D.int) [] := fun a b c => cm 1 Prod.snd a b c fun q => rfl
  have m0 := fun S => sum_ints (l := p.map fun x => (uOf u x).1) (S := S)
  have m1 := fun S => sum_ints (l := p.map fun x => (uOf u x).2) (S := S)
  have v0 : (p.map fun x => (uOf u x).1).sum = valW u p := rfl
  have v1 : (p.map fun x => (uOf u x).2).sum = ptsW u p := rfl
  rw [v0] at m0
  rw [v1] at m1
  have es : ∀ S, (fIf (tVal (fVar 1)) (fCon (.int 0)) (fCon (.int 1))) [v.D, .bl w, unD u, oBR o, rowD p, x5, x6, x7] S = .ok (.int s) S := fun S => by
    cases w <;> simp [hw]
  have hcp : prD (cntP p) = .tup [.int (p.count 0 : Nat), .int (p.count 1 : Nat)] := rfl
  rw [hcp] at e1
  have eq : ∀ S, oEq (oI (rwM v (cntP p))) (.int s) S = some (.bl (decide (rwM v (cntP p) = some s)), S) := fun S => by
    cases rwM v (cntP p) with
    | none => rfl
    | some k => simp
  unfold stepQ
  by_cases hr : rwM v (cntP p) = some s
  · rw [if_pos hr]
    rw [decide_eq_true hr] at eq
    rw [hr] at e1 eq
    have e1 : ∀ S, pureF f_round_winner [v.D, .tup [.int (p.count 0 : Nat), .int (p.count 1 : Nat)]] S = .ok (.int s) S := e1
    have e1 : ∀ S, pureF f_round_winner [.tup [.int v.t, .int v.l, oI v.c], .tup [.int (p.count 0 : Nat), .int (p.count 1 : Nat)]] S = .ok (.int s) S := e1
    unfold Lv.D unD at *
    cases o with
    | none =>
      refine ⟨.int (valW u p), .int (ptsW u p), x7, ?_⟩
      unfold brB
      cases w <;> simp at hw <;> subst hw <;> simp [-List.map_map, -List.map_subtype, oBR, c0, c1, e1, s0, s1, fl, m0, m1, brD]
    | some b =>
      refine ⟨.int (valW u p), .int (ptsW u p), x7, ?_⟩
      have lt := fun S => lt_pair (a := -valW u p) (b := ptsW u p) (c := b.1) (d := b.2.1) (S := S)
      have ct : ∀ S, oCut false (.tup [.int b.1, .int b.2.1, rowD b.2.2]) none (some 2) S = some (.tup [.int b.1, .int b.2.1], S) := fun S => cut2
      unfold brB
      cases hb : betB (-valW u p, ptsW u p) (b.1, b.2.1) <;> rw [hb] at lt <;> cases w <;> simp at hw <;> subst hw <;> simp [-List.map_map, -List.map_subtype, oBR, c0, c1, e1, s0, s1, fl, m0, m1, brD, ct, lt, hb]
  · rw [if_neg hr]
    rw [decide_eq_false hr] at eq
    refine ⟨x5, x6, x7, ?_⟩
    unfold Lv.D unD at *
    unfold brB
    cases w <;> simp at hw <;> subst hw <;> cases hq : rwM v (cntP p) <;> rw [hq] at e1 eq hr <;> simp only [oI_none, oI_some] at e1 eq <;> simp at hr <;> simp [c0, c1, e1, hr]
theorem t_best_row {v : Lv} {u : Un} {w : Bool} {s : Int} {S : Sto} (hv : v ∈ lvAll) (hw : s = if w = true then 0 else 1) :
    ∃ b, bestQ v u s = some b ∧ BestOk v u s b ∧ ∀ S, pureF f_best_row [v.D, .bl w, unD u] S = .ok (.tup [.int (-b.1), .int b.2.1, rowD b.2.2]) S := by
  have hs : s = 0 ∨ s = 1 := by cases w <;> simp at hw <;> omega
  obtain ⟨b, hb, ok⟩ := bestQ_ok (u := u) hv hs
  refine ⟨b, hb, ok, fun S => pure_eq (by simp [lowL, low_Lv, lowD, unD]) ?_⟩
  have er := fun S => t_rounds (S := S) hv
  obtain ⟨env', S', e, i⟩ := forE (g := tgName 4) (b := brB) (enc := rowD) (inv := fun o env S => S = [] ∧ ∃ x4 x5 x6 x7, env = [v.D, .bl w, unD u, oBR o, x4, x5, x6, x7]) (step := stepQ v u s) (rndsV v) none [v.D, .bl w, unD u, .non, .und, .und, .und, .und] []
    (fun p hp o env S h => by
      obtain ⟨rfl, x4, x5, x6, x7, rfl⟩ := h
      obtain ⟨_, _, _, _, hsd, hl⟩ := paths_ok hv hp
      obtain ⟨y5, y6, y7, e⟩ := t_brB (v := v) (u := u) (o := o) (x5 := x5) (x6 := x6) (x7 := x7) hw hsd hl
      exact ⟨_, _, [], rfl, e, rfl, _, _, _, _, rfl⟩) ⟨rfl, _, _, _, _, rfl⟩
  obtain ⟨rfl, x4, x5, x6, x7, rfl⟩ := i
  have hb' : (rndsV v).foldl (stepQ v u s) none = some b := hb
  rw [hb'] at e
  unfold f_best_row fn b_best_row
  change fnEnd false 0 (sSeq _ (sSeq (sFor _ _ brB) _) _ _) = _
  have ng : ∀ i S, oNeg (.int i) S = some (.int (-i), S) := fun _ _ => rfl
  unfold Lv.D unD at *
  simp [er, e, oBR, brD, end_rt]

end Sf
end

section
set_option Elab.async false
set_option maxRecDepth 100000
set_option linter.all false
set_option maxHeartbeats 4000000
namespace Sf
open PySem L2
/-! the program's surpluses, surplus_row -/
def nxtU (b c : BR) : Un := ((-b.1, b.2.1), (-c.1, c.2.1))
def u0 : Un := ((-1, 1), (1, 1))
abbrev FB := BR × BR
def brR (b : BR) : D := .tup [.int (-b.1), .int b.2.1, rowD b.2.2]
def foD (x : FB) : D := .tup [brR x.1, brR x.2]
def opn (v : Lv) (u : Un) : Bool := v.c.isNone && (decide (1 < v.l) && decide (0 < u.1.1 + u.2.1))
def surpM : List Lv → Un → Option (List FB)
  | [], _ => some []
  | v :: vs, u => if opn v u = true then none else match bestQ v u 0, bestQ v u 1 with
    | some b, some c => (surpM vs (nxtU b c)).map ((b, c) :: ·)
    | _, _ => none
def suB : FS := (sSeq (sIf (Sf.tAnd (tVal (fOp2 oIs (fOp2 oIx (fVar 3) (fCon (.int 2))) (fCon .non))) (Sf.tAnd (tVal (fOp2 oGt (fOp2 oIx (fVar 3) (fCon (.int 1))) (fCon (.int 1)))) (tVal (fOp2 oGt (fOp2 (oAdd false) (fOp2 oIx (fOp2 oIx (fVar 1) (fCon (.int 0))) (fCon (.int 0))) (fOp2 oIx (fOp2 oIx (fVar 1) (fCon (.int 1))) (fCon (.int 0)))) (fCon (.int 0)))))) (sRet (fCon .non)) (sSkip))
    (sSeq (sPar2 4 5 (fCons (fCall (pureF f_best_row) (fCons (fVar 3) (fCons (fCon (.bl true)) (fCons (fVar 1) (fNil))))) (fCons (fCall (pureF f_best_row) (fCons (fVar 3) (fCons (fCon (.bl false)) (fCons (fVar 1) (fNil))))) (fNil))))
    (sSeq (sExpr (fMethL mAppend (fVar 2) (fCons (fTup (fCons (fVar 4) (fCons (fVar 5) (fNil)))) (fNil))))
    (sAsg 1 (fTup (fCons (fCut false (fVar 4) (fNoPart) (fPart (fCon (.int 2)))) (fCons (fCut false (fVar 5) (fNoPart) (fPart (fCon (.int 2)))) (fNil))))))))
theorem t_suB {x0 : D} : ∀ (vs : List Lv) (u : Un) (acc : List FB) (a b c : D), (∀ v ∈ vs, v ∈ lvAll) → acc.length + vs.length ≤ 1000 →
    match surpM vs u with
    | some l => ∃ u' a' b' c', forL (tgName 3) suB (vs.map Lv.D) [x0, unD u, .loc 0, a, b, c] [.lst (acc.map foD)] = .nx [x0, u', .loc 0, a', b', c'] [.lst ((acc ++ l).map foD)]
    | none => ∃ S', forL (tgName 3) suB (vs.map Lv.D) [x0, unD u, .loc 0, a, b, c] [.lst (acc.map foD)] = .rt .non S'
  | [], u, acc, a, b, c, _, _ => ⟨unD u, a, b, c, by simp [forL]⟩
  | v :: vs, u, acc, a, b, c, h, hl => by
    have hv := h v (by simp)
    have fo : forL (tgName 3) suB ((v :: vs).map Lv.D) [x0, unD u, .loc 0, a, b, c] [.lst (acc.map foD)] = forK (tgName 3) suB (vs.map Lv.D) (suB [x0, unD u, .loc 0, v.D, b, c] [.lst (acc.map foD)]) := by
      rw [List.map_cons, forL_cons (env1 := [x0, unD u, .loc 0, v.D, b, c]) rfl]
    obtain ⟨b1, q1, _, e1⟩ := t_best_row (u := u) (w := true) (s := 0) (S := []) hv rfl
    obtain ⟨b2, q2, _, e2⟩ := t_best_row (u := u) (w := false) (s := 1) (S := []) hv rfl
    have ev : v.D = .tup [.int v.t, .int v.l, oI v.c] := rfl
    have eu : unD u = .tup [.tup [.int u.1.1, .int u.1.2], .tup [.int u.2.1, .int u.2.2]] := rfl
    rw [ev, eu] at e1 e2
    have c1 : ∀ S, oCut false (.tup [.int (-b1.1), .int b1.2.1, rowD b1.2.2]) none (some 2) S = some (.tup [.int (-b1.1), .int b1.2.1], S) := fun S => cut2
    have c2 : ∀ S, oCut false (.tup [.int (-b2.1), .int b2.2.1, rowD b2.2.2]) none (some 2) S = some (.tup [.int (-b2.1), .int b2.2.1], S) := fun S => cut2
    simp only [List.length_cons] at hl
    have hf : fitS acc.length = true := fitS_of (by omega)
    have il : isLs (.loc 0) [.lst (acc.map foD)] = true := isLs_of rfl
    unfold surpM
    by_cases ho : opn v u = true
    · rw [if_pos ho]
      unfold opn at ho
      rw [Bool.and_eq_true, Bool.and_eq_true] at ho
      obtain ⟨h1, h2, h3⟩ := ho
      have h2 := of_decide_eq_true h2
      have h3 := of_decide_eq_true h3
      have hn : v.c = none := by simpa using h1
      have : suB [x0, unD u, .loc 0, v.D, b, c] [.lst (acc.map foD)] = .rt .non [.lst (acc.map foD)] := by
        unfold suB
        rw [ev, eu, hn]
        simp [h2, h3]
      refine ⟨[.lst (acc.map foD)], ?_⟩
      rw [fo, this]; rfl
    · rw [if_neg ho]
      rw [q1, q2]
      simp only
      have : suB [x0, unD u, .loc 0, v.D, b, c] [.lst (acc.map foD)] = .nx [x0, unD (nxtU b1 b2), .loc 0, v.D, brR b1, brR b2] [.lst ((acc ++ [(b1, b2)]).map foD)] := by
        have hq : opn v u = false := by simpa using ho
        unfold opn at hq
        unfold suB
        rw [ev, eu]
        cases hc : v.c with
        | some k => rw [hc] at e1 e2; simp only [oI_some] at e1 e2; simp [e1, e2, c1, c2, il, hf, nxtU, unD, brR, foD]
        | none =>
          rw [hc] at hq e1 e2
          simp only [oI_none] at e1 e2
          simp only [Option.isNone_none, Bool.true_and] at hq
          by_cases h2 : 1 < v.l
          · rw [decide_eq_true h2] at hq
            simp only [Bool.true_and] at hq
            have h3 := of_decide_eq_false hq
            simp [e1, e2, c1, c2, il, hf, nxtU, unD, brR, foD, h2, h3]
          · simp [e1, e2, c1, c2, il, hf, nxtU, unD, brR, foD, h2]
      have ih := t_suB (x0 := x0) vs (nxtU b1 b2) (acc ++ [(b1, b2)]) v.D (brR b1) (brR b2) (fun v hv => h v (by simp [hv])) (by rw [List.length_append, List.length_singleton]; omega)
      cases hs : surpM vs (nxtU b1 b2) with
      | none =>
        rw [hs] at ih
        obtain ⟨S', ih⟩ := ih
        exact ⟨S', by rw [fo, this]; exact ih⟩
      | some l =>
        rw [hs] at ih
        obtain ⟨u', a', b', c', ih⟩ := ih
        exact ⟨u', a', b', c', by rw [fo, this]; show forL _ _ _ _ _ = _; rw [ih]; simp⟩
theorem plL_fo (l : List FB) : plL 4 (l.map foD) = true := plL_map foD (fun x => by
  have h : ∀ p : List Int, plL 1 (p.map D.int) = true := fun p => plL_ints _
  simp [foD, brR, pl, plL_cons, plL_nil, pl_int, h]) l
theorem frz_lst0 {S : Sto} {l : List D} {n : Nat} (h : S[0]? = some (.lst l)) (hl : plL n l = true) (hn : n < 7) : fnEnd false 0 (.rt (.loc 0) S) = .ok (.lst l) [] := by
  have hS : 0 < S.length := (List.getElem?_eq_some_iff.mp h).1
  show (bif Nat.beq S.length 0 then Out.ok (D.loc 0) S else match frzD 9 S 0 (.loc 0) with
    | some d' => (bif (S.take 0).all (lowO 0) then Out.ok d' (S.take 0) else .bad)
    | none => .bad) = _
  have hb : Nat.beq S.length 0 = false := by cases S with
    | nil => simp at hS
    | cons a S => rfl
  have e0 : frzD 9 S 0 (.loc 0) = some (.lst l) := by
    show (bif Nat.blt 0 0 then some (D.loc 0) else match S[0]? with
      | some (Ob.lst l) => (mapO (frzD 8 S 0) l).map D.lst
      | _ => none) = _
    rw [h]
    simp only
    rw [frz_plL l n 8 hl (by omega)]; rfl
  rw [hb, e0]; rfl
theorem low_fo (l : List FB) : lowL 0 (l.map foD) = true := lowL_map foD (fun x => by
  have h : ∀ p : List Int, lowL 0 (p.map D.int) = true := fun p => low_ints p
  simp [foD, brR, lowD, lowL, h]) l
theorem t_surpluses {vs : List Lv} {S : Sto} (hv : vs.length ≤ 500) (h : ∀ v ∈ vs, v ∈ lvAll) : pureF f_surpluses [formD vs] S = .ok (match surpM vs u0 with
    | some l => .lst (l.map foD)
    | none => .non) S := by
  refine pure_eq low_form ?_
  have key := t_suB (x0 := formD vs) vs u0 [] .und .und .und h (by simp; omega)
  have eu : unD u0 = .tup [.tup [.int (-1), .int 1], .tup [.int 1, .int 1]] := rfl
  rw [eu] at key
  unfold f_surpluses fn b_surpluses
  change fnEnd false 0 (sSeq _ (sSeq (sFor _ _ suB) _) _ _) = _
  cases hs : surpM vs u0 with
  | none =>
    rw [hs] at key
    obtain ⟨S', key⟩ := key
    have key : forL (tgName 3) suB (vs.map Lv.D) [formD vs, .tup [.tup [.int (-1), .int 1], .tup [.int 1, .int 1]], .loc 0, .und, .und, .und] [.lst []] = _ := key
    simp [key, end_pl (n := 0) (d := .non) (S := S') rfl (by omega)]
  | some l =>
    rw [hs] at key
    obtain ⟨u', a', b', c', key⟩ := key
    have key : forL (tgName 3) suB (vs.map Lv.D) [formD vs, .tup [.tup [.int (-1), .int 1], .tup [.int 1, .int 1]], .loc 0, .und, .und, .und] [.lst []] = _ := key
    have fz := frz_lst0 (l := l.map foD) (S := [.lst ((([] : List FB) ++ l).map foD)]) (by simp) (plL_fo l) (by omega)
    simp only [List.nil_append] at key fz
    simp [key, fz]
theorem surpM_len : ∀ {vs : List Lv} {u : Un} {l : List FB}, surpM vs u = some l → l.length = vs.length
  | [], u, l, h => by simp [surpM] at h; subst h; rfl
  | v :: vs, u, l, h => by
    unfold surpM at h
    split at h
    · cases h
    · split at h
      · rename_i b c _ _
        cases hs : surpM vs (nxtU b c) with
        | none => rw [hs] at h; cases h
        | some m => rw [hs] at h; cases h; simp [surpM_len hs]
      · cases h
theorem t_surplus {vs : List Lv} {S : Sto} (hf : Form vs) (h : ∀ v ∈ vs, v ∈ lvAll) : pureF f_surplus [formD vs] S = .ok (match surpM vs u0 with
    | some l => (match l.getLast? with
      | some x => .int (-x.1.1)
      | none => .non)
    | none => .non) S := by
  refine pure_eq low_form ?_
  have e1 := fun S => t_need_form (S := S) hf
  have e2 := fun S => t_surpluses (S := S) (vs := vs) (by have := hf.2.1; omega) h
  unfold f_surplus fn b_surplus
  cases hs : surpM vs u0 with
  | none => rw [hs] at e2; simp only at e2; simp [e1, e2, end_rt]
  | some l =>
    rw [hs] at e2; simp only at e2
    have hl := surpM_len hs
    have hne : l ≠ [] := by rintro rfl; have := hf.1; simp at hl; omega
    obtain ⟨m, x, rfl⟩ : ∃ m x, l = m ++ [x] := ⟨l.dropLast, l.getLast hne, (List.dropLast_concat_getLast hne).symm⟩
    have ix : ixD ((m ++ [x]).map foD) (-1) = some (foD x) := by rw [List.map_append]; exact ix_last
    obtain ⟨L, hL⟩ : ∃ L, L = (m ++ [x]).map foD := ⟨_, rfl⟩
    rw [← hL] at e2 ix
    simp [e1, e2, ix, foD, brR, end_rt]

end Sf
end

section
set_option Elab.async false
set_option maxRecDepth 100000
set_option linter.all false
set_option maxHeartbeats 4000000
namespace Sf
open PySem L2
/-! the ways to write a level -/
def eqLv (v w : Lv) : Bool := decide (v.t = w.t) && (decide (v.l = w.l) && decide (v.c = w.c))
theorem eqLv_ok {v w : Lv} (h : eqLv v w = true) : v = w := by
  obtain ⟨t, l, c⟩ := v
  obtain ⟨t', l', c'⟩ := w
  unfold eqLv at h
  simp only [Bool.and_eq_true, decide_eq_true_eq] at h
  obtain ⟨rfl, rfl, rfl⟩ := h
  rfl
def farC (v : Lv) : Bool := decide (v.t < v.l) && (match v.c with
  | none => true
  | some c => decide (v.l ≤ c))
def wrt (v : Lv) : List Lv := if v.l = 1 then [⟨v.t, 1, none⟩, ⟨v.t, 1, some v.t⟩, ⟨v.t, 1, some (v.t + 2)⟩, ⟨v.t, 1, some 9⟩]
  else if v.c = some v.t then [⟨v.t, 1, some v.t⟩, ⟨v.t, 2, some v.t⟩, ⟨v.t, 3, some v.t⟩]
  else if farC v = true then [v, ⟨v.l, v.l, v.c⟩] else [v]
theorem wrt_by {p : Lv → Lv → Bool} (h : (lvOld.all fun v => (wrt v).all fun w => p v w) = true) {v w : Lv} (hv : v ∈ lvOld) (hw : w ∈ wrt v) : p v w = true := List.all_eq_true.mp (List.all_eq_true.mp h v hv) w hw
theorem wrt_allB : (lvOld.all fun v => (wrt v).all fun w => lvAll.any fun u => eqLv w u) = true := by decide +kernel
theorem wrt_all {v w : Lv} (hv : v ∈ lvOld) (hw : w ∈ wrt v) : w ∈ lvAll := by
  obtain ⟨u, hu, e⟩ := List.any_eq_true.mp (wrt_by wrt_allB hv hw)
  rw [eqLv_ok e]; exact hu
theorem old_all {v : Lv} (hv : v ∈ lvOld) : v ∈ lvAll := List.mem_append_left _ hv
theorem lwon_lead1 {v : Lv} {a b : Int} (hl : v.l = 1) (hc : ∀ c, v.c = some c → v.t ≤ c) (ha : a ≤ v.t) (hb : b < v.t) : lwon v a b = decide (v.t ≤ a) := by
  obtain ⟨t, l, c⟩ := v
  simp only at hl hc ha hb
  subst hl
  unfold lwon
  rw [Bool.eq_iff_iff]
  cases c with
  | none => simp; omega
  | some c => have := hc c rfl; simp; omega
theorem lwon_capt {v : Lv} {a b : Int} (hc : v.c = some v.t) (ha : a ≤ v.t) : lwon v a b = decide (v.t ≤ a) := by
  obtain ⟨t, l, c⟩ := v
  simp only at hc ha
  subst hc
  unfold lwon
  rw [Bool.eq_iff_iff]
  simp; omega
theorem lwon_far {t l : Int} {c : Option Int} {a b : Int} (hb : 0 ≤ b) (h : t ≤ l) : lwon ⟨t, l, c⟩ a b = lwon ⟨l, l, c⟩ a b := by
  unfold lwon
  rw [Bool.eq_iff_iff]
  cases c with
  | none => simp; omega
  | some c => simp; omega
theorem own_le {p : Pr} {s t : Int} (h1 : p.1 < t) (h2 : p.2 < t) (hs : s = 0 ∨ s = 1) : ownP (plusM p s) s ≤ t ∧ ownP (plusM p s) (1 - s) < t := by
  rcases hs with rfl | rfl <;> simp [ownP, plusM] <;> omega
theorem own_nn {p : Pr} {s : Int} (h1 : 0 ≤ p.1) (h2 : 0 ≤ p.2) (hs : s = 0 ∨ s = 1) : 0 ≤ ownP (plusM p s) (1 - s) := by
  rcases hs with rfl | rfl <;> simp [ownP, plusM] <;> omega
theorem wrt_cases {v w : Lv} (hv : v.Ok) (h9 : v.t ≤ 4) (hw : w ∈ wrt v) : (v.l = 1 ∧ w.l = 1 ∧ w.t = v.t ∧ ∀ c, w.c = some c → w.t ≤ c) ∨ (v.c = some v.t ∧ w.t = v.t ∧ w.c = some w.t) ∨ (v.t < v.l ∧ 1 < v.l ∧ w = ⟨v.l, v.l, v.c⟩) ∨ w = v := by
  unfold wrt at hw
  split at hw
  · rename_i hl
    refine .inl ⟨hl, ?_⟩
    simp only [List.mem_cons, List.not_mem_nil, or_false] at hw
    rcases hw with rfl | rfl | rfl | rfl
    · exact ⟨rfl, rfl, fun c h => by cases h⟩
    · exact ⟨rfl, rfl, fun c h => by cases h; exact Int.le_refl _⟩
    · exact ⟨rfl, rfl, fun c h => by cases h; show v.t ≤ v.t + 2; omega⟩
    · exact ⟨rfl, rfl, fun c h => by cases h; show v.t ≤ 9; omega⟩
  · split at hw
    · rename_i hc
      refine .inr (.inl ⟨hc, ?_⟩)
      simp only [List.mem_cons, List.not_mem_nil, or_false] at hw
      rcases hw with rfl | rfl | rfl <;> exact ⟨rfl, rfl⟩
    · split at hw
      · rename_i hl _ hf
        unfold farC at hf
        rw [Bool.and_eq_true] at hf
        have := of_decide_eq_true hf.1
        have := hv.1
        simp only [List.mem_cons, List.not_mem_nil, or_false] at hw
        rcases hw with rfl | rfl
        · exact .inr (.inr (.inr rfl))
        · exact .inr (.inr (.inl ⟨by omega, by omega, rfl⟩))
      · simp only [List.mem_cons, List.not_mem_nil, or_false] at hw
        exact .inr (.inr (.inr hw))
theorem wrt_smg {v w : Lv} (hv : v.Ok) (h9 : v.t ≤ 4) (hw : w ∈ wrt v) : SmG v w := fun p s r hs => by
  unfold lwonP
  rcases wrt_cases hv h9 hw with ⟨h1, h2, h3, h4⟩ | ⟨h1, h2, h3⟩ | ⟨h1, h2, rfl⟩ | rfl
  · obtain ⟨a, b⟩ := own_le (r.one h1).1 (r.one h1).2 hs
    rw [lwon_lead1 h1 (fun c hc => (hv.2.2.2.2 c hc).1) a b, lwon_lead1 h2 h4 (by rw [h3]; exact a) (by rw [h3]; exact b), h3]
  · obtain ⟨n1, n2⟩ := r.nt.2.2 v.t h1
    obtain ⟨a, b⟩ := own_le n1 n2 hs
    rw [lwon_capt h1 a, lwon_capt h3 (by rw [h2]; exact a), h2]
  · obtain ⟨t, l, c⟩ := v
    exact lwon_far (own_nn r.a r.b hs) (by simp only at h1; omega)
  · rfl
theorem setl_capd {w : Lv} {c : Int} {p : Pr} (h : w.c = some c) : setlP w p = p := by
  rcases setlP_cases w p with ⟨h0, _⟩ | ⟨_, e⟩
  · rw [h] at h0; cases h0
  · exact e
theorem wrt_setl {v w : Lv} (hv : v.Ok) (h9 : v.t ≤ 4) (hw : w ∈ wrt v) {p : Pr} (r : RL v p) : setlP v (setlP w p) = setlP v p := by
  rcases wrt_cases hv h9 hw with ⟨h1, h2, h3, h4⟩ | ⟨h1, h2, h3⟩ | ⟨h1, h2, rfl⟩ | rfl
  · have o := r.one h1
    have : setlP w p = p := by
      rcases setlP_cases w p with ⟨_, h0, _⟩ | ⟨_, e⟩
      · omega
      · exact e
    rw [this]
  · rw [setl_capd h3]
  · cases hc : v.c with
    | some c => rw [setl_capd (w := ⟨v.l, v.l, some c⟩) rfl]
    | none =>
      symm
      refine setlP_canon ?_
      rcases (Eqp.setl (v := ⟨v.l, v.l, none⟩) (p := p)) with h | ⟨k1, k2, k3, k4⟩
      · exact .inl h
      · simp only at k3 k4
        exact .inr ⟨hc, k2, by omega, by omega⟩
  · exact setlP_idem
/-- level by level -/
def RelL (R : Lv → Lv → Prop) : List Lv → List Lv → Prop
  | v :: vs, w :: ws => R v w ∧ RelL R vs ws
  | [], [] => True
  | _, _ => False
theorem RelL.len {R : Lv → Lv → Prop} : ∀ {vs ws : List Lv}, RelL R vs ws → ws.length = vs.length
  | [], [], _ => rfl
  | [], _ :: _, h => h.elim
  | _ :: _, [], h => h.elim
  | _ :: vs, _ :: ws, h => by rw [List.length_cons, List.length_cons, RelL.len h.2]
theorem RelL.imp {R Q : Lv → Lv → Prop} : ∀ {vs ws : List Lv}, (∀ v w, v ∈ vs → R v w → Q v w) → RelL R vs ws → RelL Q vs ws
  | [], [], _, _ => trivial
  | [], _ :: _, _, h => h.elim
  | _ :: _, [], _, h => h.elim
  | v :: vs, w :: ws, f, h => ⟨f v w (by simp) h.1, RelL.imp (fun v w hv => f v w (by simp [hv])) h.2⟩
theorem RelL.right {R : Lv → Lv → Prop} : ∀ {vs ws : List Lv}, RelL R vs ws → ∀ w ∈ ws, ∃ v ∈ vs, R v w
  | [], [], _, w, hw => by simp at hw
  | [], _ :: _, h, _, _ => h.elim
  | _ :: _, [], h, _, _ => h.elim
  | v :: vs, u :: ws, h, w, hw => by
    rcases List.mem_cons.mp hw with rfl | hw
    · exact ⟨v, by simp, h.1⟩
    · obtain ⟨v', h1, h2⟩ := RelL.right h.2 w hw
      exact ⟨v', by simp [h1], h2⟩
theorem after_same : ∀ {vs ws : List Lv} {ps : List Pr} {s : Int}, RelL SmG vs ws → RLs vs ps → (s = 0 ∨ s = 1) → afterL vs ps s = afterL ws ps s
  | [], [], _, _, _, _, _ => rfl
  | [], _ :: _, _, _, h, _, _ => h.elim
  | _ :: _, [], _, _, h, _, _ => h.elim
  | _ :: _, _ :: _, [], _, _, h, _ => h.elim
  | v :: vs, w :: ws, p :: ps, s, h, r, hs => by
    have e := h.1 p s r.1 hs
    cases hc : lwonP v (plusM p s) s with
    | false => rw [afterL_no hc, afterL_no (e.symm.trans hc)]
    | true =>
      have hc' := e.symm.trans hc
      match vs, ws, h.2 with
      | [], [], _ => rw [afterL_one hc, afterL_one hc']
      | v2 :: vs, w2 :: ws, h2 => rw [afterL_up hc, afterL_up hc', after_same h2 r.2 hs]
theorem play_same {f g : List Lv} (h : RelL SmG f g) (hf : ∀ v ∈ f, v.Ok) (r : List Int) (hr : Sides r) : playL f r = playL g r := by
  induction r using snoc_ind with
  | h0 =>
    show start f = start g
    unfold start; rw [h.len]
  | h1 r s ih =>
    have hr' : Sides r := fun x hx => hr x (by simp [hx])
    have hs : s = 0 ∨ s = 1 := hr s (by simp)
    have ih := ih hr'
    rw [playL_snoc, playL_snoc, ← ih]
    cases hw : (playL f r).w with
    | none => rw [stepL_none hw, stepL_none hw, after_same h (RLs.play hf hr' hw) hs]
    | some k => rw [stepL_some hw, stepL_some hw]
theorem parted_same {f g : List Lv} {o : Option (List Int)} (h : ∀ r, Sides r → (playL f r).w = (playL g r).w) (p : Parted f g o) : o = none := by
  cases o with
  | none => rfl
  | some w => exact absurd (h w p.1) p.2.2.1
def WrF (f g : List Lv) : Prop := RelL (fun v w => w ∈ wrt v) f g
theorem bxw_B : (lvOld.all fun v => (wrt v).all fun w => Nat.ble (bx w).length (bif decide (v.t ≤ 2) then 25 else 40) && Nat.ble (bx v).length (bif decide (v.t ≤ 2) then 19 else 31)) = true := by decide +kernel
theorem bxw_le {v w : Lv} (hv : v ∈ lvOld) (hw : w ∈ wrt v) : (bx w).length ≤ 40 ∧ (bx v).length ≤ 31 ∧ (v.t ≤ 2 → (bx w).length ≤ 25 ∧ (bx v).length ≤ 19) := by
  have k := wrt_by bxw_B hv hw
  rw [Bool.and_eq_true] at k
  have k1 := Nat.le_of_ble_eq_true k.1
  have k2 := Nat.le_of_ble_eq_true k.2
  by_cases h : v.t ≤ 2
  · rw [decide_eq_true h] at k1 k2
    simp only [cond_true] at k1 k2
    exact ⟨by omega, by omega, fun _ => ⟨k1, k2⟩⟩
  · rw [decide_eq_false h] at k1 k2
    simp only [cond_false] at k1 k2
    exact ⟨k1, k2, fun h' => absurd h' h⟩
theorem old_t {v : Lv} (h : v ∈ lvOld) : v.t ≤ 4 := by
  have := List.all_eq_true.mp (show (lvOld.all fun v => decide (v.t ≤ 4)) = true by decide +kernel) v h
  exact of_decide_eq_true this
theorem wr_ok {f g : List Lv} (hd : Drawn f) (h : WrF f g) : ∀ w ∈ g, w ∈ lvAll := fun w hw => by
  obtain ⟨v, hv, hw⟩ := RelL.right h w hw
  exact wrt_all (hd.old v hv) hw
theorem wr_form {f g : List Lv} (hd : Drawn f) (h : WrF f g) : Form g := ⟨by rw [RelL.len h]; exact hd.1, by rw [RelL.len h]; exact hd.2.1, fun w hw => lvAll_ok (wr_ok hd h w hw)⟩
theorem wr_same {f g : List Lv} (hd : Drawn f) (h : WrF f g) : ∀ r, Sides r → (playL f r).w = (playL g r).w := fun r hr => by
  rw [play_same (RelL.imp (fun v w hv hw => wrt_smg (hd.form.2.2 v hv) (old_t (hd.old v hv)) hw) h) hd.form.2.2 r hr]
theorem wr_few {f g : List Lv} (hd : Drawn f) (h : WrF f g) : Few f g := by
  have fg := wr_form hd h
  have ol := hd.old
  obtain ⟨h1, h2, h3⟩ := hd
  match f, g, h1, h2, h with
  | [v], [w], _, _, h =>
    obtain ⟨a1, a2, _⟩ := bxw_le (ol v (by simp)) h.1
    exact Few.box (fun u hu => lvAll_ok (old_all (ol u hu))) fg.2.2 (Nat.lt_of_le_of_lt (Nat.mul_le_mul (Nat.mul_le_mul a2 (Nat.le_refl 1)) (Nat.mul_le_mul a1 (Nat.le_refl 1))) (by decide))
  | [v, v2], [w, w2], _, _, h =>
    obtain ⟨a1, a2, _⟩ := bxw_le (ol v (by simp)) h.1
    obtain ⟨b1, b2, _⟩ := bxw_le (ol v2 (by simp)) h.2.1
    exact Few.box (fun u hu => lvAll_ok (old_all (ol u hu))) fg.2.2 (Nat.lt_of_le_of_lt (Nat.mul_le_mul (Nat.mul_le_mul a2 (Nat.mul_le_mul b2 (Nat.le_refl 1))) (Nat.mul_le_mul a1 (Nat.mul_le_mul b1 (Nat.le_refl 1)))) (by decide))
  | [v, v2, v3], [w, w2, w3], _, _, h =>
    have t1 := (h3 v (by simp)).2.1
    have t2 := (h3 v2 (by simp)).2.1
    have t3 := (h3 v3 (by simp)).2.1
    simp [mostT] at t1 t2 t3
    obtain ⟨a1, a2⟩ := (bxw_le (ol v (by simp)) h.1).2.2 t1
    obtain ⟨b1, b2⟩ := (bxw_le (ol v2 (by simp)) h.2.1).2.2 t2
    obtain ⟨c1, c2⟩ := (bxw_le (ol v3 (by simp)) h.2.2.1).2.2 t3
    have ov := lvAll_ok (old_all (ol v (by simp)))
    exact Few.head (fun u hu => lvAll_ok (old_all (ol u hu))) fg.2.2 (wrt_smg ov (by omega) h.1) (fun p r => wrt_setl ov (by omega) h.1 r) (Nat.lt_of_le_of_lt (Nat.mul_le_mul a1 (Nat.mul_le_mul (Nat.mul_le_mul b2 (Nat.mul_le_mul c2 (Nat.le_refl 1))) (Nat.mul_le_mul b1 (Nat.mul_le_mul c1 (Nat.le_refl 1))))) (by decide))
  | v :: v2 :: v3 :: v4 :: vs, _, _, h2, _ => simp at h2
/-- no row parts a form from another way to write it -/
theorem wr_part {f g : List Lv} (hd : Drawn f) (h : WrF f g) {S : Sto} : pureF f_parting [formD f, formD g] S = .ok .non S := by
  obtain ⟨o, ho, _, e⟩ := t_parting hd.form (wr_form hd h) (wr_few hd h)
  have := parted_same (wr_same hd h) ho
  subst this
  exact e S
/-! a level that every unit wins -/
def oneL (u : Lv) : Prop := u.Ok ∧ ∀ s : Int, s = 0 ∨ s = 1 → lwonP u (plusM (0, 0) s) s = true
def widL : List Lv := [⟨1, 1, none⟩, ⟨1, 1, some 4⟩, ⟨1, 3, some 1⟩, ⟨1, 2, some 1⟩]
theorem widL_all {u : Lv} (hu : u ∈ widL) : u ∈ lvAll := by
  have := List.all_eq_true.mp (show (widL.all fun w => lvAll.any fun u => eqLv w u) = true by decide +kernel) u hu
  obtain ⟨u', hu, e⟩ := List.any_eq_true.mp this
  rw [eqLv_ok e]; exact hu
theorem widL_one {u : Lv} (hu : u ∈ widL) : oneL u := by
  refine ⟨lvAll_ok (widL_all hu), fun s hs => ?_⟩
  have := List.all_eq_true.mp (show (widL.all fun u => lwonP u (plusM (0, 0) 0) 0 && lwonP u (plusM (0, 0) 1) 1) = true by decide +kernel) u hu
  rw [Bool.and_eq_true] at this
  rcases hs with rfl | rfl
  · exact this.1
  · exact this.2
theorem widL_bx {u : Lv} (hu : u ∈ widL) : (bx u).length = 1 := by
  have := List.all_eq_true.mp (show (widL.all fun u => Nat.beq (bx u).length 1) = true by decide +kernel) u hu
  exact Nat.eq_of_beq_eq_true this
theorem wide_after {u : Lv} (hu : oneL u) {s : Int} (hs : s = 0 ∨ s = 1) : ∀ {A B : List Lv} {PA PB : List Pr}, A ++ B ≠ [] → PA.length = A.length → PB.length = B.length →
    (afterL (A ++ u :: B) (PA ++ (0, 0) :: PB) s).2 = (afterL (A ++ B) (PA ++ PB) s).2 ∧
      ((afterL (A ++ B) (PA ++ PB) s).2 = none → ∃ QA QB, QA.length = A.length ∧ QB.length = B.length ∧ (afterL (A ++ B) (PA ++ PB) s).1 = QA ++ QB ∧ (afterL (A ++ u :: B) (PA ++ (0, 0) :: PB) s).1 = QA ++ (0, 0) :: QB)
  | [], [], [], _, h, _, _ => absurd rfl h
  | [], b :: B, [], PB, _, _, hB => by
    rw [List.nil_append, List.nil_append, List.nil_append, List.nil_append, afterL_up (hu.2 s hs)]
    exact ⟨rfl, fun _ => ⟨[], (afterL (b :: B) PB s).1, rfl, by rw [afterL_len]; exact hB, rfl, rfl⟩⟩
  | [], _, _ :: _, _, _, h, _ => by simp at h
  | _ :: _, _, [], _, _, h, _ => by simp at h
  | v :: A, B, p :: PA, PB, _, hA, hB => by
    simp only [List.cons_append]
    cases hc : lwonP v (plusM p s) s with
    | false =>
      rw [afterL_no hc, afterL_no hc]
      exact ⟨rfl, fun _ => ⟨plusM p s :: PA, PB, by simpa using hA, hB, rfl, rfl⟩⟩
    | true =>
      by_cases he : A ++ B = []
      · obtain ⟨rfl, rfl⟩ := List.append_eq_nil_iff.mp he
        have hA0 : PA = [] := List.eq_nil_of_length_eq_zero (by simpa using hA)
        have hB0 : PB = [] := List.eq_nil_of_length_eq_zero (by simpa using hB)
        subst hA0 hB0
        simp only [List.nil_append]
        rw [afterL_one hc, afterL_up hc, afterL_one (hu.2 s hs)]
        exact ⟨rfl, fun h => by cases h⟩
      · obtain ⟨i1, i2⟩ := wide_after hu hs (A := A) (B := B) (PA := PA) (PB := PB) he (by simpa using hA) hB
        have up1 : ∀ {L : List Lv} {P : List Pr}, L ≠ [] → afterL (v :: L) (p :: P) s = ((0, 0) :: (afterL L P s).1, (afterL L P s).2) := fun {L P} hL => by
          cases L with
          | nil => exact absurd rfl hL
          | cons w L => exact afterL_up hc
        rw [up1 he, up1 (by simp)]
        refine ⟨i1, fun h => ?_⟩
        obtain ⟨QA, QB, q1, q2, q3, q4⟩ := i2 h
        exact ⟨(0, 0) :: QA, QB, by simp [q1], q2, by simp only [q3]; rfl, by simp only [q4]; rfl⟩
theorem wide_play {u : Lv} (hu : oneL u) {A B : List Lv} (hne : A ++ B ≠ []) (r : List Int) (hr : Sides r) :
    (playL (A ++ u :: B) r).w = (playL (A ++ B) r).w ∧ ((playL (A ++ B) r).w = none → ∃ QA QB, QA.length = A.length ∧ QB.length = B.length ∧ (playL (A ++ B) r).st = QA ++ QB ∧ (playL (A ++ u :: B) r).st = QA ++ (0, 0) :: QB) := by
  induction r using snoc_ind with
  | h0 =>
    refine ⟨rfl, fun _ => ⟨List.replicate A.length (0, 0), List.replicate B.length (0, 0), by simp, by simp, ?_, ?_⟩⟩
    · show List.replicate (A ++ B).length ((0, 0) : Pr) = _
      rw [List.length_append, List.replicate_append_replicate]
    · show List.replicate (A ++ u :: B).length ((0, 0) : Pr) = _
      rw [List.length_append, List.length_cons, ← List.replicate_succ, List.replicate_append_replicate]
  | h1 r s ih =>
    have hr' : Sides r := fun x hx => hr x (by simp [hx])
    have hs : s = 0 ∨ s = 1 := hr s (by simp)
    obtain ⟨i1, i2⟩ := ih hr'
    rw [playL_snoc, playL_snoc]
    cases hw : (playL (A ++ B) r).w with
    | some k =>
      rw [stepL_some hw, stepL_some (i1.trans hw)]
      exact ⟨i1, fun h => by rw [hw] at h; cases h⟩
    | none =>
      obtain ⟨QA, QB, q1, q2, q3, q4⟩ := i2 hw
      rw [stepL_none hw, stepL_none (i1.trans hw), q3, q4]
      exact wide_after hu hs hne q1 q2
theorem cnt_app : ∀ {F G : List Lv}, cnt (F ++ G) = cnt F * cnt G
  | [], G => by show cnt G = 1 * cnt G; omega
  | v :: F, G => by
    show (bx v).length * cnt (F ++ G) = (bx v).length * cnt F * cnt G
    rw [cnt_app, Nat.mul_assoc]
theorem cnt_two {f : List Lv} (ho : ∀ v ∈ f, v ∈ lvOld) (h : f.length ≤ 2) : cnt f ≤ 961 := by
  have b : ∀ v ∈ f, (bx v).length ≤ 31 := fun v hv => by
    have := List.all_eq_true.mp (show (lvOld.all fun v => Nat.ble (bx v).length 31) = true by decide +kernel) v (ho v hv)
    exact Nat.le_of_ble_eq_true this
  match f, h with
  | [], _ => decide
  | [v], _ => exact Nat.le_trans (Nat.mul_le_mul (b v (by simp)) (Nat.le_refl 1)) (by decide)
  | [v, w], _ => exact Nat.le_trans (Nat.mul_le_mul (b v (by simp)) (Nat.mul_le_mul (b w (by simp)) (Nat.le_refl 1))) (by decide)
theorem wide_form {A B : List Lv} {u : Lv} (hd : Drawn (A ++ B)) (hl : (A ++ B).length < 3) (hu : u ∈ widL) : Form (A ++ u :: B) := by
  refine ⟨by simp; omega, by simp at hl ⊢; omega, fun v hv => ?_⟩
  rcases List.mem_append.mp hv with hv | hv
  · exact hd.form.2.2 v (List.mem_append_left _ hv)
  · rcases List.mem_cons.mp hv with rfl | hv
    · exact (widL_one hu).1
    · exact hd.form.2.2 v (List.mem_append_right _ hv)
theorem wide_few {A B : List Lv} {u : Lv} (hd : Drawn (A ++ B)) (hl : (A ++ B).length < 3) (hu : u ∈ widL) : Few (A ++ B) (A ++ u :: B) := by
  have c := cnt_two hd.old (by omega)
  have e : cnt (A ++ u :: B) = cnt (A ++ B) := by
    rw [cnt_app, cnt_app]
    show cnt A * ((bx u).length * cnt B) = _
    rw [widL_bx hu, Nat.one_mul]
  refine Few.box hd.form.2.2 (wide_form hd hl hu).2.2 ?_
  rw [e]
  exact Nat.lt_of_le_of_lt (Nat.mul_le_mul c c) (by decide)
theorem wide_part {A B : List Lv} {u : Lv} (hd : Drawn (A ++ B)) (hl : (A ++ B).length < 3) (hu : u ∈ widL) {S : Sto} : pureF f_parting [formD (A ++ B), formD (A ++ u :: B)] S = .ok .non S ∧ pureF f_parting [formD (A ++ u :: B), formD (A ++ B)] S = .ok .non S := by
  have hne : A ++ B ≠ [] := fun h => by have := hd.1; rw [h] at this; simp at this
  have sm := fun r hr => (wide_play (widL_one hu) hne r hr).1
  obtain ⟨o, ho, _, e⟩ := t_parting hd.form (wide_form hd hl hu) (wide_few hd hl hu)
  obtain ⟨o2, ho2, _, e2⟩ := t_parting (wide_form hd hl hu) hd.form (wide_few hd hl hu).symm
  have := parted_same (fun r hr => (sm r hr).symm) ho
  subst this
  have := parted_same sm ho2
  subst this
  exact ⟨e S, e2 S⟩

end Sf
end

section
set_option Elab.async false
set_option maxRecDepth 100000
set_option linter.all false
set_option maxHeartbeats 4000000
namespace Sf
open PySem L2
/-! chance and expectation, by the sizes that there are -/
def okX : List Lv → Rat → Prop
  | [], _ => True
  | v :: vs, x => COk v x ∧ okX vs (rC v x)
def okY : List Lv → Rat → Rat → Prop
  | [], _, _ => True
  | v :: vs, x, m => COk v x ∧ m.den * (rU v x).den < B9 ∧ okY vs (rC v x) (m * rU v x)
theorem t_chLX {x0 x1 : D} {S : Sto} : ∀ (vs : List Lv) (x : Rat) (z : D), (∀ v ∈ vs, VOk v) → okX vs x →
    ∃ z', forL (tgName 3) chQ (vs.map Lv.D) [x0, x1, frD x, z] S = .nx [x0, x1, frD (chC vs x), z'] S
  | [], x, z, _, _ => ⟨z, rfl⟩
  | v :: vs, x, z, hv, ⟨c, h2⟩ => by
    obtain ⟨a, b⟩ := hv v (by simp)
    obtain ⟨z', ih⟩ := t_chLX (x0 := x0) (x1 := x1) (S := S) vs (rC v x) v.D (fun w hw => hv w (by simp [hw])) h2
    have e := fun S => t_round_of a c (S := S)
    refine ⟨z', ?_⟩
    rw [List.map_cons, forL_cons (env1 := [x0, x1, frD x, v.D]) rfl]
    have e1 : chQ [x0, x1, frD x, v.D] S = .nx [x0, x1, frD (rC v x), v.D] S := by
      have ev : v.D = .tup [.int v.t, .int v.l, oI v.c] := rfl
      unfold chQ
      rw [ev] at e ⊢
      unfold frD at *
      simp [e]
    rw [e1]
    exact ih
theorem t_chanceX {vs : List Lv} {n d : Int} {S : Sto} (hf : Form vs) (hv : ∀ v ∈ vs, VOk v) (h : 0 ≤ n ∧ n ≤ d) (hd : 1 ≤ d ∧ d ≤ 1000) (ho : okX vs (Rat.divInt n d)) : pureF f_chance [formD vs, .tup [.int n, .int d]] S = .ok (frD (chC vs (Rat.divInt n d))) S := by
  refine pure_eq (by simp [lowL, low_form']; rfl) ?_
  have e1 := fun S => t_need_form (S := S) hf
  have e2 := fun S => t_need_chance (S := S) h hd
  have k9 : 1000 < B9 := Nat.lt_of_lt_of_le (show 1000 < 2 ^ 10 by decide) (Nat.pow_le_pow_right (by omega) (by omega))
  have e3 := fun S => t_lowest (n := n) (d := d) (S := S) (by omega) (by have := B9_B4; omega) (Nat.lt_of_le_of_lt (gcd_le_abs (by omega)) (by omega))
  obtain ⟨z', el⟩ := t_chLX (x0 := formD vs) (x1 := .tup [.int n, .int d]) (S := []) vs (Rat.divInt n d) .und hv ho
  unfold f_chance fn b_chance
  change fnEnd false 0 (sSeq _ (sSeq _ (sSeq _ (sSeq (sFor _ _ chQ) _))) _ _) = _
  have ep : ∀ (r : Rat) S, fnEnd false 0 (.rt (frD r) S) = .ok (frD r) [] := fun r S => end_pl (n := 1) rfl (by omega)
  unfold frD at *
  simp [e1, e2, e3, el, ep]
theorem t_exLY {x0 x1 : D} {S : Sto} : ∀ (vs : List Lv) (x m : Rat) (i : Nat) (z4 z5 : D), (∀ v ∈ vs, VOk v) → okY vs x m → SmK m.num i → i + 19 * vs.length ≤ 91 →
    ∃ z2 z4' z5', forL (tgName 4) exQ (vs.map Lv.D) [x0, x1, frD x, frD m, z4, z5] S = .nx [x0, x1, z2, frD (exM vs x m), z4', z5'] S
  | [], x, m, i, z4, z5, _, _, hm, _ => ⟨frD x, z4, z5, rfl⟩
  | v :: vs, x, m, i, z4, z5, hv, ⟨c, h2, h3⟩, hm, hi => by
    rw [List.length_cons] at hi
    obtain ⟨a, b⟩ := hv v (by simp)
    obtain ⟨_, _, un⟩ := rC_den a c
    have e := fun S => t_round_of a c (S := S)
    have et := fun S => t_timesK (r := m) (s := rU v x) (S := S) hm un (by omega) h2
    obtain ⟨z2, z4', z5', ih⟩ := t_exLY (x0 := x0) (x1 := x1) (S := S) vs (rC v x) (m * rU v x) (i + 19) v.D (frD (rU v x)) (fun w hw => hv w (by simp [hw])) h3 (num_mulK hm un) (by omega)
    refine ⟨z2, z4', z5', ?_⟩
    rw [List.map_cons, forL_cons (env1 := [x0, x1, frD x, frD m, v.D, z5]) rfl]
    have e1 : exQ [x0, x1, frD x, frD m, v.D, z5] S = .nx [x0, x1, frD (rC v x), frD (m * rU v x), v.D, frD (rU v x)] S := by
      have ev : v.D = .tup [.int v.t, .int v.l, oI v.c] := rfl
      unfold exQ
      rw [ev] at e ⊢
      unfold frD at *
      simp [e, et]
    rw [e1]
    exact ih
theorem t_expectationY {vs : List Lv} {n d : Int} {S : Sto} (hf : Form vs) (hv : ∀ v ∈ vs, VOk v) (h : 0 ≤ n ∧ n ≤ d) (hd : 1 ≤ d ∧ d ≤ 1000) (ho : okY vs (Rat.divInt n d) 1) : pureF f_expectation [formD vs, .tup [.int n, .int d]] S = .ok (frD (exM vs (Rat.divInt n d) 1)) S := by
  have k9 : 1000 < B9 := Nat.lt_of_lt_of_le (show 1000 < 2 ^ 10 by decide) (Nat.pow_le_pow_right (by omega) (by omega))
  have e1 := fun S => t_need_form (S := S) hf
  have e2 := fun S => t_need_chance (S := S) h hd
  have e3 := fun S => t_lowest (n := n) (d := d) (S := S) (by omega) (by have := B9_B4; omega) (Nat.lt_of_le_of_lt (gcd_le_abs (by omega)) (by omega))
  have fl := hf.2.1
  obtain ⟨z2, z4, z5, el⟩ := t_exLY (x0 := formD vs) (x1 := .tup [.int n, .int d]) (S := []) vs (Rat.divInt n d) 1 1 .und .und hv ho (SmK.lit (by decide)) (by omega)
  refine pure_eq (by simp [lowL, low_form']; rfl) ?_
  unfold f_expectation fn b_expectation
  change fnEnd false 0 (sSeq _ (sSeq _ (sSeq _ (sSeq (sFor _ _ exQ) _))) _ _) = _
  have ep : ∀ (r : Rat) S, fnEnd false 0 (.rt (frD r) S) = .ok (frD r) [] := fun r S => end_pl (n := 1) rfl (by omega)
  have o1 : (1 : Rat).num = 1 := rfl
  have o2 : (1 : Rat).den = 1 := rfl
  unfold frD at *
  rw [o1, o2] at el
  have el : forL (tgName 4) exQ (vs.map Lv.D) [formD vs, .tup [.int n, .int d], .tup [.int (Rat.divInt n d).num, .int (Rat.divInt n d).den], .tup [.int 1, .int 1], .und, .und] [] = _ := el
  simp [e1, e2, e3, el, ep]
/-- two levels with the same round -/
def Eqv (v w : Lv) : Prop := ∀ x, COk v x → COk w x → rC w x = rC v x ∧ rU w x = rU v x
theorem Eqv.refl {v : Lv} : Eqv v v := fun _ _ _ => ⟨rfl, rfl⟩
def szL : List (Nat × Nat × Nat) → Nat → Nat → Bool
  | [], _, _ => true
  | b :: bs, d, k => decide (d ^ b.1 < 2 ^ 9000) && (decide (k * d ^ b.2.2 < 2 ^ 9000) && szL bs (d ^ b.2.1) (k * d ^ b.2.2))
structure Bd1 (b : Nat × Nat × Nat) (v w : Lv) : Prop where
  cv : CV v ≤ b.1
  cw : CV w ≤ b.1
  g : GV v ≤ b.2.1
  u : GU v ≤ b.2.2
  ov : VOk v
  ow : VOk w
  e : Eqv v w
def Bd : List (Nat × Nat × Nat) → List Lv → List Lv → Prop
  | b :: bs, v :: vs, w :: ws => Bd1 b v w ∧ Bd bs vs ws
  | [], [], [] => True
  | _, _, _ => False
structure BdR (vs ws : List Lv) (x m : Rat) : Prop where
  x1 : okX vs x
  x2 : okX ws x
  y1 : okY vs x m
  y2 : okY ws x m
  ch : chC ws x = chC vs x
  ex : exM ws x m = exM vs x m
theorem bd_ok : ∀ {bs : List (Nat × Nat × Nat)} {vs ws : List Lv} {x m : Rat} {d k : Nat}, Bd bs vs ws → (0 ≤ x.num ∧ x.num ≤ x.den) → x.den ≤ d → m.den ≤ k → szL bs d k = true → BdR vs ws x m
  | [], [], [], x, m, d, k, _, _, _, _, _ => ⟨trivial, trivial, trivial, trivial, rfl, rfl⟩
  | [], _ :: _, _, _, _, _, _, h, _, _, _, _ => h.elim
  | [], [], _ :: _, _, _, _, _, h, _, _, _, _ => h.elim
  | _ :: _, [], _, _, _, _, _, h, _, _, _, _ => h.elim
  | _ :: _, _ :: _, [], _, _, _, _, h, _, _, _, _ => h.elim
  | b :: bs, v :: vs, w :: ws, x, m, d, k, h, hx, hd, hk, hs => by
    unfold szL at hs
    rw [Bool.and_eq_true, Bool.and_eq_true] at hs
    obtain ⟨s1, s2, s3⟩ := hs
    have s1 : d ^ b.1 < B9 := of_decide_eq_true s1
    have s2 : k * d ^ b.2.2 < B9 := of_decide_eq_true s2
    obtain ⟨⟨cv, cw, g, u, ov, ow, e⟩, h2⟩ := h
    have d1 : 1 ≤ d := Nat.le_trans x.den_pos hd
    have big : ∀ {i j : Nat}, i ≤ j → x.den ^ i ≤ d ^ j := fun h => Nat.le_trans (Nat.pow_le_pow_left hd _) (Nat.pow_le_pow_right d1 h)
    have c1 : COk v x := cok hx (Nat.lt_of_le_of_lt (big cv) s1)
    have c2 : COk w x := cok hx (Nat.lt_of_le_of_lt (big cw) s1)
    obtain ⟨q1, q2⟩ := e x c1 c2
    obtain ⟨g1, g2⟩ := den_grow ov.1 c1
    have un := rC_unit ov.1 ov.2 c1
    have hm : m.den * (rU v x).den ≤ k * d ^ b.2.2 := Nat.mul_le_mul hk (Nat.le_trans g2 (big u))
    have r := bd_ok (x := rC v x) (m := m * rU v x) h2 un (Nat.le_trans g1 (big g)) (Nat.le_trans (den_mul_le _ _) hm) s3
    have hm2 := Nat.lt_of_le_of_lt hm s2
    refine ⟨⟨c1, r.x1⟩, ⟨c2, by rw [q1]; exact r.x2⟩, ⟨c1, hm2, r.y1⟩, ⟨c2, by rw [q2]; exact hm2, by rw [q1, q2]; exact r.y2⟩, ?_, ?_⟩
    · show chC ws (rC w x) = chC vs (rC v x)
      rw [q1]; exact r.ch
    · show exM ws (rC w x) (m * rU w x) = exM vs (rC v x) (m * rU v x)
      rw [q1, q2]; exact r.ex
/-- the same ends -/
def sameE (v w : Lv) : Bool := decide (endsV v = endsV w) && (endsV v).all fun e => decide (rwM v e.1 = rwM w e.1) && (rwM v e.1).isSome
theorem same_eqv {v w : Lv} (hv : EOk v) (hw : EOk w) (h : sameE v w = true) : Eqv v w := fun x cx cy => by
  unfold sameE at h
  rw [Bool.and_eq_true] at h
  have he := of_decide_eq_true h.1
  have ha := List.all_eq_true.mp h.2
  have f : ∀ e ∈ endsV v, facC w x e = facC v x e ∧ facU w x e = facU v x e := fun e he => by
    have k := ha e he
    rw [Bool.and_eq_true] at k
    have k1 := of_decide_eq_true k.1
    unfold facC facU
    rw [← k1]
    cases hr : rwM v e.1 with
    | none => rw [hr] at k; simp at k
    | some s => exact ⟨rfl, rfl⟩
  rw [(rC_eq hv cx).1, (rC_eq hv cx).2, (rC_eq hw cy).1, (rC_eq hw cy).2, ← he]
  constructor
  · congr 1
    exact List.map_congr_left fun e he => by rw [(f e he).1]
  · congr 1
    exact List.map_congr_left fun e he => by rw [(f e he).2]
/-- a level that every unit wins -/
def sngB (u : Lv) : Bool := decide (endsV u = [((1, 0), 1), ((0, 1), 1)]) && (decide (rwM u (1, 0) = some 0) && (decide (rwM u (0, 1) = some 1) && (Nat.ble (CV u) 1 && (Nat.ble (GV u) 1 && Nat.ble (GU u) 1))))
theorem sng_all : (widL.all sngB) = true := by decide +kernel
theorem sng_eq {u : Lv} (hu : u ∈ widL) {x : Rat} (c : COk u x) : rC u x = x ∧ rU u x = 1 := by
  have k := List.all_eq_true.mp sng_all u hu
  unfold sngB at k
  simp only [Bool.and_eq_true] at k
  obtain ⟨k1, k2, k3, _⟩ := k
  have k1 := of_decide_eq_true k1
  have k2 := of_decide_eq_true k2
  have k3 := of_decide_eq_true k3
  have hv := eok_all (widL_all hu)
  rw [(rC_eq hv c).1, (rC_eq hv c).2, k1]
  have w1 : wR x ((1, 0), 1) = x := by
    show ((1 : Int) : Rat) * x ^ 1 * (1 - x) ^ 0 = x
    rw [Rat.pow_succ, Rat.pow_zero, Rat.pow_zero, show ((1 : Int) : Rat) = 1 from rfl]; grind
  have w2 : wR x ((0, 1), 1) = 1 - x := by
    show ((1 : Int) : Rat) * x ^ 0 * (1 - x) ^ 1 = 1 - x
    rw [Rat.pow_succ, Rat.pow_zero, Rat.pow_zero, show ((1 : Int) : Rat) = 1 from rfl]; grind
  have f1 : facC u x ((1, 0), 1) = 1 := by unfold facC; simp only [k2]; rfl
  have f2 : facC u x ((0, 1), 1) = 0 := by unfold facC; simp only [k3]; rfl
  have g1 : facU u x ((1, 0), 1) = 1 := by
    unfold facU
    simp only [k2]
    show (1 : Rat) + 0 = 1
    grind
  have g2 : facU u x ((0, 1), 1) = 1 := by
    unfold facU
    simp only [k3]
    show (1 : Rat) + 0 = 1
    grind
  simp only [List.map_cons, List.map_nil, List.sum_cons, List.sum_nil, w1, w2, f1, f2, g1, g2]
  constructor <;> grind
theorem wide_ch {u : Lv} (hu : u ∈ widL) : ∀ {A B : List Lv} {x m : Rat}, okX (A ++ u :: B) x → chC (A ++ u :: B) x = chC (A ++ B) x ∧ exM (A ++ u :: B) x m = exM (A ++ B) x m
  | [], B, x, m, h => by
    obtain ⟨e1, e2⟩ := sng_eq hu h.1
    constructor
    · show chC B (rC u x) = chC B x
      rw [e1]
    · show exM B (rC u x) (m * rU u x) = exM B x m
      rw [e1, e2, Rat.mul_one]
  | v :: A, B, x, m, h => wide_ch hu (A := A) (B := B) (x := rC v x) (m := m * rU v x) h.2

end Sf
end

section
set_option Elab.async false
set_option maxRecDepth 100000
set_option linter.all false
set_option maxHeartbeats 4000000
namespace Sf
open PySem L2
/-! plain: the chances of a round as quotients of polynomials -/
theorem rlt_ge (a b : Rat) : a < b ∨ b ≤ a := by
  by_cases h : a < b
  · exact .inl h
  · exact .inr (Rat.not_lt.mp h)
def evH : List Int → Rat → Rat → Rat
  | [], _, _ => 0
  | c :: l, p, q => (c : Rat) * q ^ l.length + p * evH l p q
def nnB (l : List Int) : Bool := l.all fun c => decide (0 ≤ c)
def gP : Nat → Pl
  | 0 => []
  | n + 1 => pAdd (0 :: gP n) (pPow pY n)
theorem evP_gP {x : Rat} (n : Nat) : evP (gP (n + 1)) x = x * evP (gP n) x + (1 - x) ^ n := by
  have z : ((0 : Int) : Rat) = 0 := rfl
  show evP (pAdd (0 :: gP n) (pPow pY n)) x = _
  rw [evP_add, evP_cons, evP_pow, evP_Y, z]
  grind
theorem den_ne (x : Rat) : ((x.den : Nat) : Rat) ≠ 0 := by rw [Ne, Rat.natCast_eq_zero_iff]; exact x.den_nz
theorem q_rat (x : Rat) : ((x.den - x.num : Int) : Rat) = (1 - x) * (x.den : Nat) := by
  rw [Rat.intCast_sub, rat_self, Rat.intCast_natCast]; grind
theorem gI_rat (x : Rat) : ∀ n : Nat, ((gI (n + 1) x.num (x.den - x.num) : Int) : Rat) = ((x.den : Nat) : Rat) ^ n * evP (gP (n + 1)) x
  | 0 => by
    have e : gI (0 + 1) x.num (x.den - x.num) = 1 := by simp [gI]
    have o : ((1 : Int) : Rat) = 1 := rfl
    rw [e, evP_gP, Rat.pow_zero, Rat.pow_zero, o]
    show (1 : Rat) = 1 * (x * 0 + 1)
    grind
  | n + 1 => by
    have e : gI (n + 1 + 1) x.num (x.den - x.num) = x.num * gI (n + 1) x.num (x.den - x.num) + (x.den - x.num) ^ (n + 1) := rfl
    rw [e, Rat.intCast_add, Rat.intCast_mul, Rat.intCast_pow, gI_rat x n, rat_self, q_rat, evP_gP (n + 1), ratMulPow, Rat.pow_succ (((x.den : Nat) : Rat)) n]
    generalize ((x.den : Nat) : Rat) ^ n = d
    generalize evP (gP (n + 1)) x = g
    generalize ((x.den : Nat) : Rat) = e
    generalize (1 - x) ^ (n + 1) = q
    grind
theorem gP_pos {x : Rat} (hx : 0 ≤ x.num ∧ x.num ≤ x.den) (n : Nat) : 0 < evP (gP (n + 1)) x := by
  have h := gI_pos (p := x.num) (q := x.den - x.num) hx.1 (by omega) (by have := x.den_pos; omega) n
  have h2 : (0 : Rat) < ((gI (n + 1) x.num (x.den - x.num) : Int) : Rat) := Rat.intCast_pos.mpr h
  rw [gI_rat] at h2
  have dp : (0 : Rat) < ((x.den : Nat) : Rat) ^ n := Rat.pow_pos (Rat.natCast_pos.mpr x.den_pos)
  rcases rlt_ge 0 (evP (gP (n + 1)) x) with c | c
  · exact c
  · have := Rat.mul_le_mul_of_nonneg_left c (Rat.le_of_lt dp)
    grind
theorem walkW_poly {x : Rat} {l : Nat} {k : Int} (hx : 0 ≤ x.num ∧ x.num ≤ x.den) (hl : 1 ≤ l) (hk : -l < k ∧ k < l) : walkW l k x * evP (gP (2 * l)) x = x ^ wDn l k * evP (gP (wUp l k)) x := by
  rw [walkW_eq hx hl hk]
  obtain ⟨u, hu⟩ : ∃ u, wUp l k = u + 1 := ⟨wUp l k - 1, by unfold wUp; omega⟩
  obtain ⟨m, hm⟩ : ∃ m, 2 * l = m + 1 := ⟨2 * l - 1, by omega⟩
  have hs : wDn l k + u = m := by unfold wDn; unfold wUp at hu; omega
  have gp := gP_pos hx m
  rw [hm, hu, Rat.divInt_eq_div, Rat.intCast_mul, Rat.intCast_pow, gI_rat, gI_rat, rat_self, ratMulPow]
  have dz := den_ne x
  have e : ((x.den : Nat) : Rat) ^ m = ((x.den : Nat) : Rat) ^ wDn l k * ((x.den : Nat) : Rat) ^ u := by rw [← hs, ratPowAdd]
  have z : ∀ n : Nat, ((x.den : Nat) : Rat) ^ n ≠ 0 := fun n => by
    have : (0 : Rat) < ((x.den : Nat) : Rat) ^ n := Rat.pow_pos (Rat.natCast_pos.mpr x.den_pos)
    grind
  rw [e]
  have z1 := z (wDn l k)
  have z2 := z u
  generalize ((x.den : Nat) : Rat) ^ wDn l k = a at *
  generalize ((x.den : Nat) : Rat) ^ u = b at *
  generalize evP (gP (m + 1)) x = G at *
  generalize evP (gP (u + 1)) x = H at *
  generalize x ^ wDn l k = X at *
  have gz : G ≠ 0 := by grind
  grind

end Sf
end

section
set_option Elab.async false
set_option maxRecDepth 100000
set_option linter.all false
set_option maxHeartbeats 4000000
namespace Sf
open PySem L2
/-! a walk that goes on: each step as the one before -/
def hW (l : Nat) (x : Rat) (k : Int) : Rat := if (l : Int) ≤ k then 1 else if k ≤ -(l : Int) then 0 else walkW l k x
def hE (l : Nat) (x : Rat) (k : Int) : Rat := if (l : Int) ≤ k ∨ k ≤ -(l : Int) then 0 else walkE l k x
theorem hW_poly {x : Rat} {l : Nat} {k : Int} (hx : 0 ≤ x.num ∧ x.num ≤ x.den) (hl : 1 ≤ l) (h1 : -(l : Int) ≤ k) (h2 : k ≤ l) : hW l x k * evP (gP (2 * l)) x = x ^ wDn l k * evP (gP (wUp l k)) x := by
  unfold hW
  by_cases c1 : (l : Int) ≤ k
  · rw [if_pos c1]
    have e1 : wDn l k = 0 := by unfold wDn; omega
    have e2 : wUp l k = 2 * l := by unfold wUp; omega
    rw [e1, e2, Rat.pow_zero]
  · rw [if_neg c1]
    by_cases c2 : k ≤ -(l : Int)
    · rw [if_pos c2]
      have e2 : wUp l k = 0 := by unfold wUp; omega
      rw [e2]
      show (0 : Rat) * _ = _ * (0 : Rat)
      grind
    · rw [if_neg c2]
      exact walkW_poly hx hl (by omega)
theorem harmW {x : Rat} {l : Nat} {k : Int} (hx : 0 ≤ x.num ∧ x.num ≤ x.den) (hl : 1 ≤ l) (h1 : -(l : Int) < k) (h2 : k < l) : hW l x k = x * hW l x (k + 1) + (1 - x) * hW l x (k - 1) := by
  have a0 := hW_poly hx hl (k := k) (by omega) (by omega)
  have a1 := hW_poly hx hl (k := k + 1) (by omega) (by omega)
  have a2 := hW_poly hx hl (k := k - 1) (by omega) (by omega)
  obtain ⟨j, hj⟩ : ∃ j, wDn l k = j + 1 := ⟨wDn l k - 1, by unfold wDn; omega⟩
  obtain ⟨i, hi⟩ : ∃ i, wUp l k = i + 1 := ⟨wUp l k - 1, by unfold wUp; omega⟩
  have j1 : wDn l (k + 1) = j := by unfold wDn at hj ⊢; omega
  have j2 : wDn l (k - 1) = j + 1 + 1 := by unfold wDn at hj ⊢; omega
  have i1 : wUp l (k + 1) = i + 1 + 1 := by unfold wUp at hi ⊢; omega
  have i2 : wUp l (k - 1) = i := by unfold wUp at hi ⊢; omega
  obtain ⟨m, hm⟩ : ∃ m, 2 * l = m + 1 := ⟨2 * l - 1, by omega⟩
  have gp := gP_pos hx m
  rw [← hm] at gp
  rw [hj, hi, evP_gP, Rat.pow_succ] at a0
  rw [j1, i1, evP_gP, evP_gP, Rat.pow_succ (1 - x) i] at a1
  rw [j2, i2, Rat.pow_succ, Rat.pow_succ] at a2
  generalize evP (gP (2 * l)) x = G at *
  generalize evP (gP i) x = g at *
  generalize x ^ j = X at *
  generalize (1 - x) ^ i = Y at *
  generalize hW l x k = H0 at *
  generalize hW l x (k + 1) = H1 at *
  generalize hW l x (k - 1) = H2 at *
  have gz : G ≠ 0 := by grind
  have key : G * (H0 - (x * H1 + (1 - x) * H2)) = 0 := by grind
  have : H0 - (x * H1 + (1 - x) * H2) = 0 := by
    rcases Rat.mul_eq_zero.mp key with h | h
    · exact absurd h gz
    · exact h
  grind
theorem hE_half {x : Rat} {l : Nat} {k : Int} (hx : x.num = x.den - x.num) (h1 : -(l : Int) ≤ k) (h2 : k ≤ l) : hE l x k = ((l : Int) : Rat) * ((l : Int) : Rat) - (k : Rat) * (k : Rat) := by
  unfold hE
  by_cases c : (l : Int) ≤ k ∨ k ≤ -(l : Int)
  · rw [if_pos c]
    rcases c with c | c
    · have : k = l := by omega
      subst this; grind
    · have : k = -(l : Int) := by omega
      rw [this, Rat.intCast_neg]; grind
  · rw [if_neg c]
    unfold walkE
    rw [if_pos hx, Rat.intCast_mul, Rat.intCast_add, Rat.intCast_sub]; grind
theorem hE_rest {x : Rat} {l : Nat} {k : Int} (hx : x.num ≠ x.den - x.num) (hl : 1 ≤ l) (h1 : -(l : Int) ≤ k) (h2 : k ≤ l) : (2 * x - 1) * hE l x k = 2 * ((l : Int) : Rat) * hW l x k - (((l : Int) : Rat) + (k : Rat)) := by
  unfold hE hW
  by_cases c1 : (l : Int) ≤ k
  · rw [if_pos (.inl c1), if_pos c1]
    have : k = l := by omega
    subst this; grind
  · by_cases c2 : k ≤ -(l : Int)
    · rw [if_pos (.inr c2), if_neg c1, if_pos c2]
      have : k = -(l : Int) := by omega
      rw [this, Rat.intCast_neg]; grind
    · rw [if_neg (by omega), if_neg c1, if_neg c2]
      unfold walkE
      rw [if_neg hx]
      have en : ((x.num : Int) : Rat) = x * ((x.den : Nat) : Rat) := rat_self x
      have dz := den_ne x
      have y0 : 2 * x - 1 ≠ 0 := fun h => by
        refine hx ?_
        have e : ((x.num : Int) : Rat) = ((x.den - x.num : Int) : Rat) := by
          rw [q_rat, en]
          have : x = 1 - x := by grind
          rw [← this]
        exact Rat.intCast_inj.mp e
      have e2 : ((x.num - (x.den - x.num) : Int) : Rat) = ((x.den : Nat) : Rat) * (2 * x - 1) := by
        rw [Rat.intCast_sub, q_rat, en]; grind
      rw [Rat.divInt_eq_div, e2, Rat.intCast_natCast, Rat.intCast_add]
      have e3 : ((x.den : Nat) : Rat) / (((x.den : Nat) : Rat) * (2 * x - 1)) * (2 * x - 1) = 1 := by
        generalize ((x.den : Nat) : Rat) = e at *
        generalize 2 * x - 1 = y at *
        grind
      have lc : ((l : Nat) : Rat) = ((l : Int) : Rat) := (Rat.intCast_natCast l).symm
      rw [lc]
      generalize ((x.den : Nat) : Rat) / (((x.den : Nat) : Rat) * (2 * x - 1)) = z at *
      generalize walkW l k x = W at *
      generalize ((l : Int) : Rat) = L at *
      generalize (k : Rat) = K at *
      grind
theorem harmE {x : Rat} {l : Nat} {k : Int} (hx : 0 ≤ x.num ∧ x.num ≤ x.den) (hl : 1 ≤ l) (h1 : -(l : Int) < k) (h2 : k < l) : hE l x k = 1 + x * hE l x (k + 1) + (1 - x) * hE l x (k - 1) := by
  have k1 : ((k + 1 : Int) : Rat) = (k : Rat) + 1 := by rw [Rat.intCast_add]; rfl
  have k2 : ((k - 1 : Int) : Rat) = (k : Rat) - 1 := by rw [Rat.intCast_sub]; rfl
  by_cases hh : x.num = x.den - x.num
  · have a0 := hE_half hh (l := l) (k := k) (by omega) (by omega)
    have a1 := hE_half hh (l := l) (k := k + 1) (by omega) (by omega)
    have a2 := hE_half hh (l := l) (k := k - 1) (by omega) (by omega)
    have hx2 : 2 * x = 1 := by
      have en : ((x.num : Int) : Rat) = x * ((x.den : Nat) : Rat) := rat_self x
      have e : ((x.num : Int) : Rat) = ((x.den - x.num : Int) : Rat) := by rw [← hh]
      rw [q_rat, en] at e
      have dz := den_ne x
      generalize ((x.den : Nat) : Rat) = dd at *
      have : (2 * x - 1) * dd = 0 := by grind
      rcases Rat.mul_eq_zero.mp this with h | h
      · grind
      · exact absurd h dz
    rw [k1] at a1
    rw [k2] at a2
    rw [a0, a1, a2]
    generalize ((l : Int) : Rat) = L at *
    generalize (k : Rat) = K at *
    grind
  · have a0 := hE_rest hh hl (k := k) (by omega) (by omega)
    have a1 := hE_rest hh hl (k := k + 1) (by omega) (by omega)
    have a2 := hE_rest hh hl (k := k - 1) (by omega) (by omega)
    have w := harmW hx hl h1 h2
    rw [k1] at a1
    rw [k2] at a2
    have y0 : 2 * x - 1 ≠ 0 := fun h => by
      refine hh ?_
      have en : ((x.num : Int) : Rat) = x * ((x.den : Nat) : Rat) := rat_self x
      have e : ((x.num : Int) : Rat) = ((x.den - x.num : Int) : Rat) := by
        rw [q_rat, en]
        have : x = 1 - x := by grind
        rw [← this]
      exact Rat.intCast_inj.mp e
    generalize hE l x k = E0 at *
    generalize hE l x (k + 1) = E1 at *
    generalize hE l x (k - 1) = E2 at *
    generalize hW l x k = W0 at *
    generalize hW l x (k + 1) = W1 at *
    generalize hW l x (k - 1) = W2 at *
    generalize ((l : Int) : Rat) = L at *
    generalize (k : Rat) = K at *
    have key : (2 * x - 1) * (E0 - (1 + x * E1 + (1 - x) * E2)) = 0 := by
      have e1 : (2 * x - 1) * (E0 - (1 + x * E1 + (1 - x) * E2)) = (2 * x - 1) * E0 - (2 * x - 1) - x * ((2 * x - 1) * E1) - (1 - x) * ((2 * x - 1) * E2) := by grind
      rw [e1, a0, a1, a2, w]
      grind
    rcases Rat.mul_eq_zero.mp key with h | h
    · exact absurd h y0
    · grind
/-! the ends of an open round, unfolded -/
def stopB (v : Lv) (p : Pr) : Bool := (rwM v p).isSome || decide (v.t ≤ min p.1 p.2)
def lvs (v : Lv) : Nat → Pr → List Pr
  | 0, p => [p]
  | n + 1, p => bif stopB v p then [p] else lvs v n (p.1 + 1, p.2) ++ lvs v n (p.1, p.2 + 1)
def okN (v : Lv) : Nat → Pr → Bool
  | 0, _ => true
  | n + 1, p => stopB v p || ((decide (-v.l < p.1 - p.2) && decide (p.1 - p.2 < v.l)) && (okN v n (p.1 + 1, p.2) && okN v n (p.1, p.2 + 1)))
def mW (l : Nat) (x : Rat) (p : Pr) : Rat := x ^ p.1.toNat * (1 - x) ^ p.2.toNat * hW l x (p.1 - p.2)
def mE (l : Nat) (x : Rat) (p : Pr) : Rat := x ^ p.1.toNat * (1 - x) ^ p.2.toNat * (((p.1 + p.2 : Int) : Rat) + hE l x (p.1 - p.2))
theorem mW_step {x : Rat} {l : Nat} {p : Pr} (hx : 0 ≤ x.num ∧ x.num ≤ x.den) (hl : 1 ≤ l) (h1 : -(l : Int) < p.1 - p.2) (h2 : p.1 - p.2 < l) (p1 : 0 ≤ p.1) (p2 : 0 ≤ p.2) : mW l x (p.1 + 1, p.2) + mW l x (p.1, p.2 + 1) = mW l x p := by
  have w := harmW hx hl h1 h2
  unfold mW
  simp only
  rw [show (p.1 + 1).toNat = p.1.toNat + 1 by omega, show (p.2 + 1).toNat = p.2.toNat + 1 by omega, Rat.pow_succ, Rat.pow_succ, show p.1 + 1 - p.2 = p.1 - p.2 + 1 by omega, show p.1 - (p.2 + 1) = p.1 - p.2 - 1 by omega, w]
  grind
theorem mE_step {x : Rat} {l : Nat} {p : Pr} (hx : 0 ≤ x.num ∧ x.num ≤ x.den) (hl : 1 ≤ l) (h1 : -(l : Int) < p.1 - p.2) (h2 : p.1 - p.2 < l) (p1 : 0 ≤ p.1) (p2 : 0 ≤ p.2) : mE l x (p.1 + 1, p.2) + mE l x (p.1, p.2 + 1) = mE l x p := by
  have w := harmE hx hl h1 h2
  unfold mE
  simp only
  have c1 : ((p.1 + 1 + p.2 : Int) : Rat) = ((p.1 + p.2 : Int) : Rat) + 1 := by rw [show p.1 + 1 + p.2 = p.1 + p.2 + 1 by omega, Rat.intCast_add]; rfl
  have c2 : ((p.1 + (p.2 + 1) : Int) : Rat) = ((p.1 + p.2 : Int) : Rat) + 1 := by rw [show p.1 + (p.2 + 1) = p.1 + p.2 + 1 by omega, Rat.intCast_add]; rfl
  rw [show (p.1 + 1).toNat = p.1.toNat + 1 by omega, show (p.2 + 1).toNat = p.2.toNat + 1 by omega, Rat.pow_succ, Rat.pow_succ, show p.1 + 1 - p.2 = p.1 - p.2 + 1 by omega, show p.1 - (p.2 + 1) = p.1 - p.2 - 1 by omega, w, c1, c2]
  generalize ((p.1 + p.2 : Int) : Rat) = s
  generalize hE l x (p.1 - p.2 + 1) = E1
  generalize hE l x (p.1 - p.2 - 1) = E2
  generalize x ^ p.1.toNat = X
  generalize (1 - x) ^ p.2.toNat = Y
  grind
theorem lvs_sum {v : Lv} {f : Pr → Rat} (hf : ∀ p : Pr, 0 ≤ p.1 → 0 ≤ p.2 → -v.l < p.1 - p.2 → p.1 - p.2 < v.l → f (p.1 + 1, p.2) + f (p.1, p.2 + 1) = f p) : ∀ (n : Nat) (p : Pr), 0 ≤ p.1 → 0 ≤ p.2 → okN v n p = true → ((lvs v n p).map f).sum = f p
  | 0, p, _, _, _ => by
    show (f p + 0 : Rat) = f p
    grind
  | n + 1, p, h1, h2, h => by
    unfold lvs
    unfold okN at h
    cases hs : stopB v p with
    | true =>
      show (f p + 0 : Rat) = f p
      grind
    | false =>
      rw [hs, Bool.false_or, Bool.and_eq_true, Bool.and_eq_true, Bool.and_eq_true] at h
      obtain ⟨⟨a, b⟩, c, d⟩ := h
      have a := of_decide_eq_true a
      have b := of_decide_eq_true b
      simp only [cond_false]
      rw [List.map_append, sum_app, lvs_sum hf n (p.1 + 1, p.2) (by simp only; omega) h2 c, lvs_sum hf n (p.1, p.2 + 1) h1 (by simp only; omega) d]
      exact hf p h1 h2 a b
theorem rep_sum {α : Type} {f : α → Rat} {a : α} : ∀ n : Nat, ((List.replicate n a).map f).sum = ((n : Nat) : Rat) * f a
  | 0 => by
    show (0 : Rat) = ((0 : Nat) : Rat) * f a
    rw [show ((0 : Nat) : Rat) = 0 from rfl]; grind
  | n + 1 => by
    rw [List.replicate_succ, List.map_cons, List.sum_cons, rep_sum n, Rat.natCast_add]
    rw [show ((1 : Nat) : Rat) = 1 from rfl]; grind
theorem flat_sum {f : Pr → Rat} : ∀ l : List EnE, (∀ e ∈ l, 0 ≤ e.2) → ((l.flatMap fun e => List.replicate e.2.toNat e.1).map f).sum = (l.map fun e => ((e.2 : Int) : Rat) * f e.1).sum
  | [], _ => rfl
  | e :: l, h => by
    rw [List.flatMap_cons, List.map_append, sum_app, flat_sum l (fun e he => h e (by simp [he])), rep_sum, List.map_cons, List.sum_cons]
    have : ((e.2.toNat : Nat) : Rat) = ((e.2 : Int) : Rat) := by
      rw [← Rat.intCast_natCast, Int.toNat_of_nonneg (h e (by simp))]
    rw [this]
def facB (v : Lv) (e : EnE) : Bool := match rwM v e.1 with
  | some k => bif decide (k = 0) then decide (v.l ≤ e.1.1 - e.1.2) else decide (e.1.1 - e.1.2 ≤ -v.l)
  | none => decide (-v.l < e.1.1 - e.1.2) && decide (e.1.1 - e.1.2 < v.l)
def opnB (v : Lv) : Bool := decide (1 ≤ v.l) && (okN v 9 (0, 0) && ((endsV v).all (fun e => facB v e && decide (0 ≤ e.2)) && ((endsV v).flatMap fun e => List.replicate e.2.toNat e.1).isPerm (lvs v 9 (0, 0))))
theorem opn_eq {v : Lv} (hv : EOk v) (h : opnB v = true) {x : Rat} (c : COk v x) : rC v x = hW v.l.toNat x 0 ∧ rU v x = hE v.l.toNat x 0 := by
  unfold opnB at h
  rw [Bool.and_eq_true, Bool.and_eq_true, Bool.and_eq_true] at h
  obtain ⟨h0, h1, h2, h3⟩ := h
  have h0 := of_decide_eq_true h0
  have hx : 0 ≤ x.num ∧ x.num ≤ x.den := ⟨c.nn, c.le⟩
  have hl : ((v.l.toNat : Nat) : Int) = v.l := Int.toNat_of_nonneg (by omega)
  have pm := List.isPerm_iff.mp h3
  have ev := List.all_eq_true.mp h2
  have f1 : ∀ e ∈ endsV v, wR x e * facC v x e = ((e.2 : Int) : Rat) * mW v.l.toNat x e.1 ∧ wR x e * facU v x e = ((e.2 : Int) : Rat) * mE v.l.toNat x e.1 := fun e he => by
    have k := (Bool.and_eq_true _ _ ▸ ev e he).1
    unfold facB at k
    unfold facC facU wR mW mE hW hE
    rw [hl]
    cases hr : rwM v e.1 with
    | none =>
      rw [hr] at k
      simp only [Bool.and_eq_true, decide_eq_true_eq] at k
      rw [if_neg (by omega), if_neg (by omega), if_neg (by omega)]
      constructor <;> grind
    | some s =>
      rw [hr] at k
      simp only at k ⊢
      by_cases hs : s = 0
      · rw [decide_eq_true hs] at k
        simp only [cond_true, decide_eq_true_eq] at k
        rw [if_pos hs, if_pos k, if_pos (.inl k)]
        constructor <;> grind
      · rw [decide_eq_false hs] at k
        simp only [cond_false, decide_eq_true_eq] at k
        rw [if_neg hs, if_neg (by omega), if_pos k, if_pos (.inr k)]
        constructor <;> grind
  have f2 : ∀ e ∈ endsV v, 0 ≤ e.2 := fun e he => of_decide_eq_true (Bool.and_eq_true _ _ ▸ ev e he).2
  rw [(rC_eq hv c).1, (rC_eq hv c).2, List.map_congr_left fun e he => (f1 e he).1, List.map_congr_left fun e he => (f1 e he).2, ← flat_sum _ f2, ← flat_sum _ f2, sum_perm pm, sum_perm pm]
  have z1 : mW v.l.toNat x (0, 0) = hW v.l.toNat x 0 := by
    show x ^ 0 * (1 - x) ^ 0 * hW v.l.toNat x 0 = _
    rw [Rat.pow_zero, Rat.pow_zero]; grind
  have z2 : mE v.l.toNat x (0, 0) = hE v.l.toNat x 0 := by
    show x ^ 0 * (1 - x) ^ 0 * ((0 : Rat) + hE v.l.toNat x 0) = _
    rw [Rat.pow_zero, Rat.pow_zero]; grind
  constructor
  · rw [lvs_sum (fun p p1 p2 a b => mW_step hx (by omega) (by omega) (by omega) p1 p2) 9 (0, 0) (by decide) (by decide) h1, z1]
  · rw [lvs_sum (fun p p1 p2 a b => mE_step hx (by omega) (by omega) (by omega) p1 p2) 9 (0, 0) (by decide) (by decide) h1, z2]
theorem pair_B : (lvOld.all fun v => (wrt v).all fun w => eqLv v w || (sameE v w || (opnB v && (opnB w && decide (v.l = w.l))))) = true := by decide +kernel
theorem wrt_eqv {v w : Lv} (hv : v ∈ lvOld) (hw : w ∈ wrt v) : Eqv v w := by
  have k := wrt_by pair_B hv hw
  have ev := eok_all (old_all hv)
  have ew := eok_all (wrt_all hv hw)
  rw [Bool.or_eq_true, Bool.or_eq_true] at k
  rcases k with k | k | k
  · rw [eqLv_ok k]; exact .refl
  · exact same_eqv ev ew k
  · rw [Bool.and_eq_true, Bool.and_eq_true] at k
    obtain ⟨k1, k2, k3⟩ := k
    have k3 := of_decide_eq_true k3
    intro x cx cy
    rw [(opn_eq ev k1 cx).1, (opn_eq ev k1 cx).2, (opn_eq ew k2 cy).1, (opn_eq ew k2 cy).2, k3]
    exact ⟨rfl, rfl⟩

end Sf
end

section
set_option Elab.async false
set_option maxRecDepth 100000
set_option linter.all false
set_option maxHeartbeats 4000000
namespace Sf
open PySem L2
/-! the surplus of forms that are the same -/
def finU : List Lv → Un → Option Un
  | [], u => some u
  | v :: vs, u => if opn v u = true then none else match bestQ v u 0, bestQ v u 1 with
    | some b, some c => finU vs (nxtU b c)
    | _, _ => none
theorem surp_len : ∀ {vs : List Lv} {u : Un} {l : List FB}, surpM vs u = some l → l.length = vs.length := surpM_len
theorem surp_fin : ∀ (vs : List Lv) (u : Un), match surpM vs u with
    | some l => ∃ u', finU vs u = some u' ∧ ∀ x, l.getLast? = some x → u'.1.1 = -x.1.1
    | none => finU vs u = none
  | [], u => ⟨u, rfl, fun x h => by cases h⟩
  | v :: vs, u => by
    unfold surpM finU
    by_cases ho : opn v u = true
    · rw [if_pos ho, if_pos ho]
    · rw [if_neg ho, if_neg ho]
      cases hb : bestQ v u 0 with
      | none => rfl
      | some b =>
        cases hc : bestQ v u 1 with
        | none => rfl
        | some c =>
          have ih := surp_fin vs (nxtU b c)
          simp only
          cases hs : surpM vs (nxtU b c) with
          | none => rw [hs] at ih; exact ih
          | some l =>
            rw [hs] at ih
            obtain ⟨u', e, k⟩ := ih
            refine ⟨u', e, fun x hx => ?_⟩
            cases l with
            | nil =>
              have : vs = [] := List.eq_nil_of_length_eq_zero (by have := surpM_len hs; simpa using this.symm)
              subst this
              cases e
              have : (b, c) = x := by simpa using hx
              subst this
              rfl
            | cons y l => exact k x (by rw [← hx, List.getLast?_cons_cons])
/-- what surplus answers -/
def surO (vs : List Lv) : Option Int := (finU vs u0).map fun u => u.1.1
theorem t_surplusO {vs : List Lv} {S : Sto} (hf : Form vs) (h : ∀ v ∈ vs, v ∈ lvAll) : pureF f_surplus [formD vs] S = .ok (oI (surO vs)) S := by
  rw [t_surplus hf h]
  have k := surp_fin vs u0
  unfold surO
  cases hs : surpM vs u0 with
  | none =>
    rw [hs] at k
    simp only at k
    rw [k]; rfl
  | some l =>
    rw [hs] at k
    obtain ⟨u', e, k⟩ := k
    have hl := surpM_len hs
    have hne : l ≠ [] := by rintro rfl; have := hf.1; simp at hl; omega
    obtain ⟨m, x, rfl⟩ : ∃ m x, l = m ++ [x] := ⟨l.dropLast, l.getLast hne, (List.dropLast_concat_getLast hne).symm⟩
    have lx : (m ++ [x]).getLast? = some x := by simp
    simp only [lx]
    rw [e]
    show Out.ok (D.int (-x.1.1)) S = .ok (.int u'.1.1) S
    rw [k x lx]
theorem valW_cnt {u : Un} : ∀ p : List Int, Sides p → valW u p = (cntP p).1 * u.1.1 + (cntP p).2 * u.2.1 ∧ ptsW u p = (cntP p).1 * u.1.2 + (cntP p).2 * u.2.2
  | [], _ => by simp [valW, ptsW, cntP]
  | x :: p, h => by
    obtain ⟨i1, i2⟩ := valW_cnt (u := u) p fun y hy => h y (by simp [hy])
    have v1 : valW u (x :: p) = (uOf u x).1 + valW u p := by unfold valW; rw [List.map_cons, List.sum_cons]
    have v2 : ptsW u (x :: p) = (uOf u x).2 + ptsW u p := by unfold ptsW; rw [List.map_cons, List.sum_cons]
    rw [v1, v2, i1, i2]
    rcases h x (by simp) with rfl | rfl
    · have e : cntP (0 :: p) = ((cntP p).1 + 1, (cntP p).2) := by simp [cntP]
      rw [e]; simp only [uOf, if_true]
      rw [Int.add_mul, Int.add_mul]; omega
    · have e : cntP (1 :: p) = ((cntP p).1, (cntP p).2 + 1) := by simp [cntP]
      rw [e]; simp only [uOf]
      rw [if_neg (by decide), Int.add_mul, Int.add_mul]; omega
def nnU (u : Un) : Prop := 0 ≤ u.1.2 ∧ 0 ≤ u.2.2
theorem ptsW_nn {u : Un} (h : nnU u) : ∀ p : List Int, 0 ≤ ptsW u p
  | [] => by simp [ptsW]
  | x :: p => by
    have v2 : ptsW u (x :: p) = (uOf u x).2 + ptsW u p := by unfold ptsW; rw [List.map_cons, List.sum_cons]
    have := ptsW_nn h p
    have : 0 ≤ (uOf u x).2 := by unfold uOf; split; exact h.1; exact h.2
    omega
/-- the same rounds -/
def sameR (v w : Lv) : Bool := decide (rndsV v = rndsV w) && (rndsV v).all fun p => decide (rwM v (cntP p) = rwM w (cntP p))
/-- an open level's rounds: the shortest is the best -/
def openR (v : Lv) : Bool := v.c.isNone && (decide (1 < v.l) && ((rndsV v).all (fun p => match rwM v (cntP p) with
    | some s => bif decide (s = 0) then decide ((cntP p).1 = (cntP p).2 + v.l) && decide (0 ≤ (cntP p).2) else decide ((cntP p).2 = (cntP p).1 + v.l) && decide (0 ≤ (cntP p).1)
    | none => true) && ((rndsV v).any (fun p => decide (rwM v (cntP p) = some 0) && decide (cntP p = (v.l, 0))) && (rndsV v).any (fun p => decide (rwM v (cntP p) = some 1) && decide (cntP p = (0, v.l))))))
def pairR (v w : Lv) : Bool := eqLv v w || (sameR v w || (openR v && (openR w && decide (v.l = w.l))))
theorem pairR_B : (lvOld.all fun v => (wrt v).all fun w => pairR v w) = true := by decide +kernel
def pairO (v w : Lv) : Bool := decide ((v.c.isNone && decide (1 < v.l)) = (w.c.isNone && decide (1 < w.l))) && (decide (leastU v = leastU w) && decide (mostU v = mostU w))
theorem pairO_B : (lvOld.all fun v => (wrt v).all fun w => pairO v w) = true := by decide +kernel
theorem foldl_congr {v w : Lv} {u : Un} {s : Int} : ∀ (l : List (List Int)) (o : Option BR), (∀ p ∈ l, rwM v (cntP p) = rwM w (cntP p)) → l.foldl (stepQ v u s) o = l.foldl (stepQ w u s) o
  | [], _, _ => rfl
  | p :: l, o, h => by
    rw [List.foldl_cons, List.foldl_cons]
    have : stepQ v u s o p = stepQ w u s o p := by unfold stepQ; rw [h p (by simp)]
    rw [this]
    exact foldl_congr l _ fun q hq => h q (by simp [hq])
theorem open_best {v : Lv} {u : Un} {s : Int} {b : BR} (hv : v ∈ lvAll) (hn : nnU u) (hs : s = 0 ∨ s = 1) (hr : openR v = true) (ho : opn v u = false) (hb : BestOk v u s b) : b.1 = -(v.l * (uOf u s).1) ∧ b.2.1 = v.l * (uOf u s).2 := by
  unfold openR at hr
  simp only [Bool.and_eq_true] at hr
  obtain ⟨r1, r2, r3, r4, r5⟩ := hr
  have r2 := of_decide_eq_true r2
  have sum0 : u.1.1 + u.2.1 ≤ 0 := by
    unfold opn at ho
    rw [r1, decide_eq_true r2] at ho
    simp only [Bool.true_and] at ho
    have := of_decide_eq_false ho
    omega
  obtain ⟨_, _, _, _, sd, _⟩ := paths_ok hv hb.mem
  have c := valW_cnt (u := u) b.2.2 sd
  have k := List.all_eq_true.mp r3 b.2.2 hb.mem
  rw [hb.win] at k
  have e1 := hb.val
  have e2 := hb.pts
  have n1 := hn.1
  have n2 := hn.2
  rcases hs with rfl | rfl
  · simp only [decide_true, cond_true, Bool.and_eq_true, decide_eq_true_eq] at k
    obtain ⟨p, hp, hq⟩ := List.any_eq_true.mp r4
    rw [Bool.and_eq_true] at hq
    have q1 := of_decide_eq_true hq.1
    have q2 := of_decide_eq_true hq.2
    obtain ⟨_, _, _, _, sp, _⟩ := paths_ok hv hp
    have cp := valW_cnt (u := u) p sp
    rw [q2] at cp
    simp only at cp
    have bb := hb.best p hp q1
    unfold betB at bb
    simp only [Bool.or_eq_false_iff, Bool.and_eq_false_iff, decide_eq_false_iff_not] at bb
    show b.1 = -(v.l * u.1.1) ∧ b.2.1 = v.l * u.1.2
    generalize (cntP b.2.2).1 = A at *
    generalize (cntP b.2.2).2 = C at *
    obtain ⟨k1, k2⟩ := k
    subst k1
    have m1 : C * (u.1.1 + u.2.1) ≤ 0 := Int.mul_nonpos_of_nonneg_of_nonpos k2 sum0
    have m2 : 0 ≤ C * (u.1.2 + u.2.2) := Int.mul_nonneg k2 (by omega)
    rw [Int.mul_add] at m1 m2
    rw [Int.add_mul] at c
    rw [Int.add_mul] at c
    omega
  · have z : ¬ ((1 : Int) = 0) := by decide
    simp only [decide_eq_false z, cond_false, Bool.and_eq_true, decide_eq_true_eq] at k
    obtain ⟨p, hp, hq⟩ := List.any_eq_true.mp r5
    rw [Bool.and_eq_true] at hq
    have q1 := of_decide_eq_true hq.1
    have q2 := of_decide_eq_true hq.2
    obtain ⟨_, _, _, _, sp, _⟩ := paths_ok hv hp
    have cp := valW_cnt (u := u) p sp
    rw [q2] at cp
    simp only at cp
    have bb := hb.best p hp q1
    unfold betB at bb
    simp only [Bool.or_eq_false_iff, Bool.and_eq_false_iff, decide_eq_false_iff_not] at bb
    show b.1 = -(v.l * u.2.1) ∧ b.2.1 = v.l * u.2.2
    generalize (cntP b.2.2).1 = A at *
    generalize (cntP b.2.2).2 = C at *
    obtain ⟨k1, k2⟩ := k
    subst k1
    have m1 : A * (u.1.1 + u.2.1) ≤ 0 := Int.mul_nonpos_of_nonneg_of_nonpos k2 sum0
    have m2 : 0 ≤ A * (u.1.2 + u.2.2) := Int.mul_nonneg k2 (by omega)
    rw [Int.mul_add] at m1 m2
    rw [Int.add_mul] at c
    rw [Int.add_mul] at c
    omega
theorem best_same {v w : Lv} {u : Un} {s : Int} (hv : v ∈ lvOld) (hw : w ∈ wrt v) (hn : nnU u) (hs : s = 0 ∨ s = 1) (ho : opn v u = false) (ho' : opn w u = false) : ∃ b c, bestQ v u s = some b ∧ bestQ w u s = some c ∧ c.1 = b.1 ∧ c.2.1 = b.2.1 ∧ 0 ≤ b.2.1 := by
  obtain ⟨b, b1, b2⟩ := bestQ_ok (u := u) (old_all hv) hs
  obtain ⟨c, c1, c2⟩ := bestQ_ok (u := u) (wrt_all hv hw) hs
  have nn : 0 ≤ b.2.1 := by rw [b2.pts]; exact ptsW_nn hn _
  refine ⟨b, c, b1, c1, ?_⟩
  have k := wrt_by pairR_B hv hw
  unfold pairR at k
  rw [Bool.or_eq_true, Bool.or_eq_true] at k
  rcases k with k | k | k
  · have := eqLv_ok k
    subst this
    rw [b1] at c1; cases c1
    exact ⟨rfl, rfl, nn⟩
  · unfold sameR at k
    rw [Bool.and_eq_true] at k
    have k1 := of_decide_eq_true k.1
    have k2 := List.all_eq_true.mp k.2
    have : bestQ v u s = bestQ w u s := by
      unfold bestQ
      rw [← k1]
      exact foldl_congr _ _ fun p hp => of_decide_eq_true (k2 p hp)
    rw [b1, c1] at this
    cases this
    exact ⟨rfl, rfl, nn⟩
  · rw [Bool.and_eq_true, Bool.and_eq_true] at k
    obtain ⟨k1, k2, k3⟩ := k
    have k3 := of_decide_eq_true k3
    obtain ⟨x1, x2⟩ := open_best (old_all hv) hn hs k1 ho b2
    obtain ⟨y1, y2⟩ := open_best (wrt_all hv hw) hn hs k2 ho' c2
    exact ⟨by rw [y1, x1, k3], by rw [y2, x2, k3], nn⟩
theorem fin_same : ∀ {f g : List Lv} {u : Un}, (∀ v ∈ f, v ∈ lvOld) → WrF f g → nnU u → finU g u = finU f u
  | [], [], _, _, _, _ => rfl
  | [], _ :: _, _, _, h, _ => h.elim
  | _ :: _, [], _, _, h, _ => h.elim
  | v :: f, w :: g, u, ho, h, hn => by
    have hv := ho v (by simp)
    have k := wrt_by pairO_B hv h.1
    unfold pairO at k
    rw [Bool.and_eq_true] at k
    have k := of_decide_eq_true k.1
    have eo : opn w u = opn v u := by
      have e : ∀ z : Lv, opn z u = ((z.c.isNone && decide (1 < z.l)) && decide (0 < u.1.1 + u.2.1)) := fun z => by unfold opn; rw [Bool.and_assoc]
      rw [e, e, k]
    unfold finU
    cases hb : opn v u with
    | true => rw [eo, hb, if_pos rfl, if_pos rfl]
    | false =>
      have hb' := eo.trans hb
      obtain ⟨b, c, q1, q2, q3, q4, q5⟩ := best_same hv h.1 hn (.inl rfl) hb hb'
      obtain ⟨b', c', q1', q2', q3', q4', q5'⟩ := best_same hv h.1 hn (.inr rfl) hb hb'
      rw [hb', q1, q2, q1', q2']
      have en : nxtU c c' = nxtU b b' := by unfold nxtU; rw [q3, q4, q3', q4']
      simp only [en]
      have ih := fin_same (f := f) (g := g) (u := nxtU b b') (fun v hv => ho v (by simp [hv])) h.2 ⟨q5, q5'⟩
      rw [ih]
theorem least_same : ∀ {f g : List Lv}, (∀ v ∈ f, v ∈ lvOld) → WrF f g → leastM g = leastM f ∧ mostM g = mostM f
  | [], [], _, _ => ⟨rfl, rfl⟩
  | [], _ :: _, _, h => h.elim
  | _ :: _, [], _, h => h.elim
  | v :: f, w :: g, ho, h => by
    have k := wrt_by pairO_B (ho v (by simp)) h.1
    unfold pairO at k
    rw [Bool.and_eq_true, Bool.and_eq_true] at k
    have k1 := of_decide_eq_true k.2.1
    have k2 := of_decide_eq_true k.2.2
    obtain ⟨i1, i2⟩ := least_same (f := f) (g := g) (fun v hv => ho v (by simp [hv])) h.2
    unfold leastM mostM
    rw [← k1, ← k2, i1, i2]
    exact ⟨rfl, rfl⟩
/-! a level that every unit wins -/
def sngR (u : Lv) : Bool := decide (rndsV u = [[0], [1]]) && (decide (rwM u (cntP [0]) = some 0) && (decide (rwM u (cntP [1]) = some 1) && (!(u.c.isNone && decide (1 < u.l)) && (decide (leastU u = 1) && decide (mostU u = some 1)))))
theorem sngR_all : (widL.all sngR) = true := by decide +kernel
theorem sng_fin {v : Lv} (hv : v ∈ widL) {B : List Lv} {u : Un} : finU (v :: B) u = finU B u := by
  have k := List.all_eq_true.mp sngR_all v hv
  unfold sngR at k
  simp only [Bool.and_eq_true] at k
  obtain ⟨k1, k2, k3, k4, _⟩ := k
  have k1 := of_decide_eq_true k1
  have k2 := of_decide_eq_true k2
  have k3 := of_decide_eq_true k3
  have ho : opn v u = false := by
    have e : opn v u = ((v.c.isNone && decide (1 < v.l)) && decide (0 < u.1.1 + u.2.1)) := by unfold opn; rw [Bool.and_assoc]
    rw [e]
    have : (v.c.isNone && decide (1 < v.l)) = false := by rw [Bool.not_eq_true'] at k4; exact k4
    rw [this]; rfl
  have b0 : bestQ v u 0 = some (-valW u [0], ptsW u [0], [0]) := by
    unfold bestQ
    rw [k1]
    simp only [List.foldl_cons, List.foldl_nil]
    unfold stepQ
    rw [k2, k3]
    simp
  have b1 : bestQ v u 1 = some (-valW u [1], ptsW u [1], [1]) := by
    unfold bestQ
    rw [k1]
    simp only [List.foldl_cons, List.foldl_nil]
    unfold stepQ
    rw [k2, k3]
    simp
  have w0 : valW u [0] = u.1.1 ∧ ptsW u [0] = u.1.2 := by simp [valW, ptsW, uOf]
  have w1 : valW u [1] = u.2.1 ∧ ptsW u [1] = u.2.2 := by simp [valW, ptsW, uOf]
  conv => lhs; unfold finU
  rw [ho, b0, b1]
  have : nxtU (-valW u [0], ptsW u [0], [0]) (-valW u [1], ptsW u [1], [1]) = u := by
    unfold nxtU
    rw [w0.1, w0.2, w1.1, w1.2]
    simp
  simp [this]
theorem wide_fin {v : Lv} (hv : v ∈ widL) : ∀ {A B : List Lv} {u : Un}, finU (A ++ v :: B) u = finU (A ++ B) u
  | [], B, u => sng_fin hv
  | a :: A, B, u => by
    show finU (a :: (A ++ v :: B)) u = finU (a :: (A ++ B)) u
    unfold finU
    cases bestQ a u 0 with
    | none => rfl
    | some b =>
      cases bestQ a u 1 with
      | none => rfl
      | some c => simp only [wide_fin hv (A := A) (B := B)]
theorem wide_least {v : Lv} (hv : v ∈ widL) : ∀ {A B : List Lv}, leastM (A ++ v :: B) = leastM (A ++ B) ∧ mostM (A ++ v :: B) = mostM (A ++ B)
  | [], B => by
    have k := List.all_eq_true.mp sngR_all v hv
    unfold sngR at k
    simp only [Bool.and_eq_true] at k
    obtain ⟨_, _, _, _, k5, k6⟩ := k
    have k5 := of_decide_eq_true k5
    have k6 := of_decide_eq_true k6
    show leastU v * leastM B = leastM B ∧ (match mostU v, mostM B with
      | some a, some b => some (a * b)
      | _, _ => none) = mostM B
    rw [k5, k6]
    refine ⟨by omega, ?_⟩
    cases mostM B with
    | none => rfl
    | some b => simp
  | a :: A, B => by
    obtain ⟨i1, i2⟩ := wide_least hv (A := A) (B := B)
    show leastU a * leastM (A ++ v :: B) = leastU a * leastM (A ++ B) ∧ (match mostU a, mostM (A ++ v :: B) with
      | some a, some b => some (a * b)
      | _, _ => none) = (match mostU a, mostM (A ++ B) with
      | some a, some b => some (a * b)
      | _, _ => none)
    rw [i1, i2]
    exact ⟨rfl, rfl⟩

end Sf
end

section
set_option Elab.async false
set_option maxRecDepth 100000
set_option linter.all false
set_option maxHeartbeats 4000000
namespace Sf
open PySem L2
/-! k14: the law -/
theorem cutT_to {l : List D} {k : Nat} {m : Bool} {S : Sto} (h : k ≤ l.length) : oCut m (.tup l) none (some (k : Int)) S = some (.tup (l.take k), S) := by
  show some (D.tup (cutD l none (some (k : Int))), S) = _
  unfold cutD
  rw [HT.sIx_none, HT.sIx_nat, Nat.min_eq_left h, List.drop_zero, Nat.sub_zero]
theorem cutT_from {l : List D} {k : Nat} {m : Bool} {S : Sto} (h : k ≤ l.length) : oCut m (.tup l) (some (k : Int)) none S = some (.tup (l.drop k), S) := by
  show some (D.tup (cutD l (some (k : Int)) none), S) = _
  unfold cutD
  rw [HT.sIx_none, HT.sIx_nat, Nat.min_eq_left h, List.take_of_length_le (by rw [List.length_drop]; omega)]
theorem addTup {a b : List D} {S : Sto} (h : a.length + b.length ≤ 1000) : oAdd false (.tup a) (.tup b) S = some (.tup (a ++ b), S) := by
  show (bif fit (a.length + b.length) then some (D.tup (a ++ b), S) else none) = _
  rw [fit_of (by omega)]; rfl
theorem fcutT {a : FE} {lo hi : FO} {env : En} {S : Sto} {x y : D} {l u : Option Int} (ha : a env S = .ok x S) (hl : lo env S = .ok l S) (hu : hi env S = .ok u S) (h : oCut false x l u S = some (y, S)) : fCut false a lo hi env S = .ok y S := by
  rw [x_cut, ha, x_bind, hl, x_bind, hu, x_bind, h]; rfl
theorem partF {f : FE} {env : En} {S S1 : Sto} {i : Int} (h : f env S = .ok (.int i) S1) : fPart f env S = .ok (some i) S1 := by rw [x_part, h]; rfl
theorem take_mapL {F : List Lv} {X : List D} : (F.map Lv.D ++ X).take F.length = F.map Lv.D := by
  have := List.take_left (l₁ := F.map Lv.D) (l₂ := X)
  rw [List.length_map] at this
  exact this
theorem comp_rel {e : FE} {env : En} {j : Nat} {R : Sto} {Q : Lv → Lv → Prop} : ∀ (vs : List Lv) (p q : Int),
    (∀ v ∈ vs, ∀ p q : Int, 0 ≤ p → 0 ≤ q → ∃ w p' q', Q v w ∧ 0 ≤ p' ∧ 0 ≤ q' ∧ e (env.set j v.D) (tw p q R) = .ok w.D (tw p' q' R)) → 0 ≤ p → 0 ≤ q →
    ∃ (ws : List Lv) (p' q' : Int), RelL Q vs ws ∧ 0 ≤ p' ∧ 0 ≤ q' ∧ compL (tgName j) tYesF e env (vs.map Lv.D) (tw p q R) = .ok (ws.map Lv.D) (tw p' q' R)
  | [], p, q, _, hp, hq => ⟨[], p, q, trivial, hp, hq, rfl⟩
  | v :: vs, p, q, h, hp, hq => by
    obtain ⟨w, p1, q1, hw, hp, hq, e1⟩ := h v (by simp) p q hp hq
    obtain ⟨ws, p2, q2, hws, hp, hq, e2⟩ := comp_rel vs p1 q1 (fun v hv => h v (by simp [hv])) hp hq
    refine ⟨w :: ws, p2, q2, ⟨hw, hws⟩, hp, hq, ?_⟩
    rw [List.map_cons]
    simp only [compL, x_tgName, x_yes, e1, e2]
    rfl
theorem x_eqO {c : Option Int} {t : Int} {S : Sto} : oEq (oI c) (.int t) S = some (.bl (decide (c = some t)), S) := by
  cases c with
  | none => simp
  | some k => by_cases h : k = t <;> simp [h]
theorem t_written {ns : List Int} {v : Lv} {p q : Int} {R : Sto} (hp : 0 ≤ p) (hq : 0 ≤ q) :
    ∃ w p' q', w ∈ wrt v ∧ 0 ≤ p' ∧ 0 ≤ q' ∧ f__law_written [.scr (ns.map D.int), .loc 0, v.D] (tw p q R) = .ok w.D (tw p' q' R) := by
  obtain ⟨t, l, c⟩ := v
  have s1 : sAsgT [3, 4, 5] (fVar 2) [.scr (ns.map D.int), .loc 0, Lv.D ⟨t, l, c⟩, .und, .und, .und] (tw p q R) = .nx [.scr (ns.map D.int), .loc 0, Lv.D ⟨t, l, c⟩, .int t, .int l, oI c] (tw p q R) := rfl
  have v5 : ∀ S, fVar 5 [.scr (ns.map D.int), .loc 0, Lv.D ⟨t, l, c⟩, .int t, .int l, oI c] S = .ok (oI c) S := fun S => by cases c <;> rfl
  have t1 : tVal (fOp2 oEq (fVar 4) (fCon (.int 1))) [.scr (ns.map D.int), .loc 0, Lv.D ⟨t, l, c⟩, .int t, .int l, oI c] (tw p q R) = .ok (decide (l = 1)) (tw p q R) := valF (op2F rfl rfl x_eqI)
  have t2 : tVal (fOp2 oEq (fVar 5) (fVar 3)) [.scr (ns.map D.int), .loc 0, Lv.D ⟨t, l, c⟩, .int t, .int l, oI c] (tw p q R) = .ok (decide (c = some t)) (tw p q R) := valF (op2F (v5 _) rfl x_eqO)
  have t3 : Sf.tAnd (tVal (fOp2 oLt (fVar 3) (fVar 4))) (Sf.tOr (tVal (fOp2 oIs (fVar 5) (fCon .non))) (tVal (fOp2 oGe (fVar 5) (fVar 4)))) [.scr (ns.map D.int), .loc 0, Lv.D ⟨t, l, c⟩, .int t, .int l, oI c] (tw p q R) = .ok (farC ⟨t, l, c⟩) (tw p q R) := by
    unfold farC
    by_cases h : t < l
    · cases c with
      | none => simp [h]
      | some c => by_cases h2 : l ≤ c <;> simp [h, h2]
    · simp [h]
  have fin : ∀ (w : Lv) (p' q' : Int), fnEnd false (tw p q R).length (.rt w.D (tw p' q' R)) = .ok w.D (tw p' q' R) := fun w p' q' => end_rt (by simp)
  have unf : f__law_written [.scr (ns.map D.int), .loc 0, Lv.D ⟨t, l, c⟩] (tw p q R) = fnEnd false (tw p q R).length (b__law_written [.scr (ns.map D.int), .loc 0, Lv.D ⟨t, l, c⟩, .und, .und, .und] (tw p q R)) := rfl
  rw [unf]
  unfold b__law_written
  rw [sSeq_nx s1]
  by_cases h1 : l = 1
  · rw [decide_eq_true h1] at t1
    obtain ⟨i, p2, q2, i1, hp, hq, e2⟩ := t_pick (ns := ns) (R := R) (l := [.non, .int t, .int (t + 2), .int 9]) (by simp) (by simp) hp hq
    have key : ∀ c' : Option Int, ([.non, .int t, .int (t + 2), .int 9] : List D)[i]? = some (oI c') → ∃ w p' q', w ∈ wrt ⟨t, l, c⟩ ∧ 0 ≤ p' ∧ 0 ≤ q' ∧ fnEnd false (tw p q R).length (sSeq (sIf (tVal (fOp2 oEq (fVar 4) (fCon (.int 1)))) (sRet (fTup (fCons (fVar 3) (fCons (fCon (.int 1)) (fCons (fCall f__law_pick (fCons (fVar 0) (fCons (fVar 1) (fCons (fLst false (fCons (fCon .non) (fCons (fVar 3) (fCons (fOp2 (oAdd false) (fVar 3) (fCon (.int 2))) (fCons (fCon (.int 9)) (fNil)))))) (fNil))))) (fNil)))))) (sSkip)) (sSeq (sIf (tVal (fOp2 oEq (fVar 5) (fVar 3))) (sRet (fTup (fCons (fVar 3) (fCons (fOp2 (oAdd false) (fCon (.int 1)) (fCall f__law_draw (fCons (fVar 0) (fCons (fVar 1) (fCons (fCon (.int 3)) (fNil)))))) (fCons (fVar 3) (fNil)))))) (sSkip)) (sSeq (sIf (Sf.tAnd (tVal (fOp2 oLt (fVar 3) (fVar 4))) (Sf.tOr (tVal (fOp2 oIs (fVar 5) (fCon .non))) (tVal (fOp2 oGe (fVar 5) (fVar 4))))) (sRet (fTup (fCons (fCall f__law_pick (fCons (fVar 0) (fCons (fVar 1) (fCons (fLst false (fCons (fVar 3) (fCons (fVar 4) (fNil)))) (fNil))))) (fCons (fVar 4) (fCons (fVar 5) (fNil)))))) (sSkip)) (sRet (fVar 2)))) [.scr (ns.map D.int), .loc 0, Lv.D ⟨t, l, c⟩, .int t, .int l, oI c] (tw p q R)) = .ok w.D (tw p' q' R) := fun c' hc' => by
      have e2 := e2 _ hc'
      refine ⟨⟨t, 1, c'⟩, p2, q2, ?_, hp, hq, ?_⟩
      · unfold wrt
        rw [if_pos h1]
        match i, i1 with
        | 0, _ => cases c' <;> simp at hc' ⊢
        | 1, _ =>
          cases c' with
          | none => simp at hc'
          | some k => simp at hc' ⊢; omega
        | 2, _ =>
          cases c' with
          | none => simp at hc'
          | some k => simp at hc' ⊢; omega
        | 3, _ =>
          cases c' with
          | none => simp at hc'
          | some k => simp at hc' ⊢; omega
        | i + 4, h => simp at h; omega
      · have r : sIf (tVal (fOp2 oEq (fVar 4) (fCon (.int 1)))) (sRet (fTup (fCons (fVar 3) (fCons (fCon (.int 1)) (fCons (fCall f__law_pick (fCons (fVar 0) (fCons (fVar 1) (fCons (fLst false (fCons (fCon .non) (fCons (fVar 3) (fCons (fOp2 (oAdd false) (fVar 3) (fCon (.int 2))) (fCons (fCon (.int 9)) (fNil)))))) (fNil))))) (fNil)))))) (sSkip) [.scr (ns.map D.int), .loc 0, Lv.D ⟨t, l, c⟩, .int t, .int l, oI c] (tw p q R) = .rt (Lv.D ⟨t, 1, c'⟩) (tw p2 q2 R) := by
          rw [sIf_yes t1, x_ret, x_tup, consF rfl (consF rfl (consF (callF (consF rfl (consF rfl (consF (x := .lst [.non, .int t, .int (t + 2), .int 9]) (S1 := tw p q R) (by rfl) x_nil))) e2) x_nil))]
          rfl
        rw [x_seq, r]
        exact fin _ _ _
    match i, i1 with
    | 0, _ => exact key none rfl
    | 1, _ => exact key (some t) rfl
    | 2, _ => exact key (some (t + 2)) rfl
    | 3, _ => exact key (some 9) rfl
    | i + 4, h => simp at h; omega
  · rw [decide_eq_false h1] at t1
    rw [sSeq_nx (by rw [sIf_no t1]; rfl)]
    by_cases h2 : c = some t
    · rw [decide_eq_true h2] at t2
      obtain ⟨r, p2, q2, r1, r2, hp, hq, e2⟩ := t_draw (ns := ns) (n := 3) (R := R) (by omega) (by omega) hp hq
      refine ⟨⟨t, 1 + r, some t⟩, p2, q2, ?_, hp, hq, ?_⟩
      · unfold wrt
        rw [if_neg h1, if_pos h2]
        have : r = 0 ∨ r = 1 ∨ r = 2 := by omega
        rcases this with rfl | rfl | rfl <;> simp
      · have rr : sIf (tVal (fOp2 oEq (fVar 5) (fVar 3))) (sRet (fTup (fCons (fVar 3) (fCons (fOp2 (oAdd false) (fCon (.int 1)) (fCall f__law_draw (fCons (fVar 0) (fCons (fVar 1) (fCons (fCon (.int 3)) (fNil)))))) (fCons (fVar 3) (fNil)))))) (sSkip) [.scr (ns.map D.int), .loc 0, Lv.D ⟨t, l, c⟩, .int t, .int l, oI c] (tw p q R) = .rt (Lv.D ⟨t, 1 + r, some t⟩) (tw p2 q2 R) := by
          rw [sIf_yes t2, x_ret, x_tup, consF rfl (consF (op2F rfl (callF (consF rfl (consF rfl (consF rfl x_nil))) e2) rfl) (consF rfl x_nil))]
          rfl
        rw [x_seq, rr]
        exact fin _ _ _
    · rw [decide_eq_false h2] at t2
      rw [sSeq_nx (by rw [sIf_no t2]; rfl)]
      cases h3 : farC ⟨t, l, c⟩ with
      | false =>
        rw [h3] at t3
        rw [sSeq_nx (by rw [sIf_no t3]; rfl)]
        refine ⟨⟨t, l, c⟩, p, q, ?_, hp, hq, ?_⟩
        · unfold wrt
          rw [if_neg h1, if_neg h2, h3]
          simp
        · exact fin _ _ _
      | true =>
        rw [h3] at t3
        obtain ⟨i, p2, q2, i1, hp, hq, e2⟩ := t_pick (ns := ns) (R := R) (l := [.int t, .int l]) (by simp) (by simp) hp hq
        have key : ∀ t' : Int, (t' = t ∨ t' = l) → ([.int t, .int l] : List D)[i]? = some (.int t') → ∃ w p' q', w ∈ wrt ⟨t, l, c⟩ ∧ 0 ≤ p' ∧ 0 ≤ q' ∧ fnEnd false (tw p q R).length (sSeq (sIf (Sf.tAnd (tVal (fOp2 oLt (fVar 3) (fVar 4))) (Sf.tOr (tVal (fOp2 oIs (fVar 5) (fCon .non))) (tVal (fOp2 oGe (fVar 5) (fVar 4))))) (sRet (fTup (fCons (fCall f__law_pick (fCons (fVar 0) (fCons (fVar 1) (fCons (fLst false (fCons (fVar 3) (fCons (fVar 4) (fNil)))) (fNil))))) (fCons (fVar 4) (fCons (fVar 5) (fNil)))))) (sSkip)) (sRet (fVar 2)) [.scr (ns.map D.int), .loc 0, Lv.D ⟨t, l, c⟩, .int t, .int l, oI c] (tw p q R)) = .ok w.D (tw p' q' R) := fun t' ht hc' => by
          have e2 := e2 _ hc'
          refine ⟨⟨t', l, c⟩, p2, q2, ?_, hp, hq, ?_⟩
          · unfold wrt
            rw [if_neg h1, if_neg h2, h3]
            rcases ht with rfl | rfl <;> simp
          · have rr : sIf (Sf.tAnd (tVal (fOp2 oLt (fVar 3) (fVar 4))) (Sf.tOr (tVal (fOp2 oIs (fVar 5) (fCon .non))) (tVal (fOp2 oGe (fVar 5) (fVar 4))))) (sRet (fTup (fCons (fCall f__law_pick (fCons (fVar 0) (fCons (fVar 1) (fCons (fLst false (fCons (fVar 3) (fCons (fVar 4) (fNil)))) (fNil))))) (fCons (fVar 4) (fCons (fVar 5) (fNil)))))) (sSkip) [.scr (ns.map D.int), .loc 0, Lv.D ⟨t, l, c⟩, .int t, .int l, oI c] (tw p q R) = .rt (Lv.D ⟨t', l, c⟩) (tw p2 q2 R) := by
              rw [sIf_yes t3, x_ret, x_tup, consF (callF (consF rfl (consF rfl (consF (x := .lst [.int t, .int l]) (S1 := tw p q R) (by rfl) x_nil))) e2) (consF rfl (consF (v5 _) x_nil))]
              rfl
            rw [x_seq, rr]
            exact fin _ _ _
        match i, i1 with
        | 0, _ => exact key t (.inl rfl) rfl
        | 1, _ => exact key l (.inr rfl) rfl
        | i + 2, h => simp at h; omega
theorem t_wider {ns : List Int} {f : List Lv} {p q : Int} {R : Sto} (hl : f.length < 3) (hp : 0 ≤ p) (hq : 0 ≤ q) :
    ∃ A B u p' q', f = A ++ B ∧ u ∈ widL ∧ 0 ≤ p' ∧ 0 ≤ q' ∧ f__law_wider [.scr (ns.map D.int), .loc 0, formD f] (tw p q R) = .ok (formD (A ++ u :: B)) (tw p' q' R) := by
  obtain ⟨r, p1, q1, r1, r2, hp, hq, e1⟩ := t_draw (ns := ns) (n := (f.length : Int) + 1) (R := R) (by omega) (by omega) hp hq
  obtain ⟨i, rfl⟩ := Int.eq_ofNat_of_zero_le r1
  obtain ⟨j, p2, q2, j1, hp, hq, e2⟩ := t_pick (ns := ns) (R := R) (l := widL.map Lv.D) (by simp [widL]) (by simp [widL]) hp hq
  have j2 : j < widL.length := by simpa using j1
  have e2 := e2 (widL[j]).D (by rw [List.getElem?_map, List.getElem?_eq_getElem j2]; rfl)
  have hu : widL[j] ∈ widL := List.getElem_mem j2
  generalize widL[j] = u at e2 hu
  have hi : i ≤ (f.map Lv.D).length := by rw [List.length_map]; omega
  have c1 := cutT_to (l := f.map Lv.D) (k := i) (m := false) (S := tw p2 q2 R) hi
  have c2 := cutT_from (l := f.map Lv.D) (k := i) (m := false) (S := tw p2 q2 R) hi
  have a1 := addTup (a := (f.map Lv.D).take i) (b := [u.D]) (S := tw p2 q2 R) (by rw [List.length_take, List.length_map]; simp; omega)
  have a2 := addTup (a := (f.map Lv.D).take i ++ [u.D]) (b := (f.map Lv.D).drop i) (S := tw p2 q2 R) (by rw [List.length_append, List.length_take, List.length_drop, List.length_map]; simp; omega)
  refine ⟨f.take i, f.drop i, u, p2, q2, (List.take_append_drop i f).symm, hu, hp, hq, ?_⟩
  have s1 : sAsg 3 (fCall f__law_draw (fCons (fVar 0) (fCons (fVar 1) (fCons (fOp2 (oAdd false) (fOpN oLen (fCons (fVar 2) (fNil))) (fCon (.int 1))) (fNil))))) [.scr (ns.map D.int), .loc 0, formD f, .und, .und] (tw p q R) = .nx [.scr (ns.map D.int), .loc 0, formD f, .int i, .und] (tw p1 q1 R) :=
    asgF (callF (consF rfl (consF rfl (consF (op2F (opNF0 (consF rfl x_nil) (by rw [x_lenT, List.length_map])) rfl rfl) x_nil))) e1)
  have s2 : sAsg 4 (fCall f__law_pick (fCons (fVar 0) (fCons (fVar 1) (fCons (fLst false (fCons (fTup (fCons (fCon (.int 1)) (fCons (fCon (.int 1)) (fCons (fCon .non) (fNil))))) (fCons (fTup (fCons (fCon (.int 1)) (fCons (fCon (.int 1)) (fCons (fCon (.int 4)) (fNil))))) (fCons (fTup (fCons (fCon (.int 1)) (fCons (fCon (.int 3)) (fCons (fCon (.int 1)) (fNil))))) (fCons (fTup (fCons (fCon (.int 1)) (fCons (fCon (.int 2)) (fCons (fCon (.int 1)) (fNil))))) (fNil)))))) (fNil))))) [.scr (ns.map D.int), .loc 0, formD f, .int i, .und] (tw p1 q1 R) = .nx [.scr (ns.map D.int), .loc 0, formD f, .int i, u.D] (tw p2 q2 R) :=
    asgF (callF (consF rfl (consF rfl (consF (x := .lst (widL.map Lv.D)) (S1 := tw p1 q1 R) (by rfl) x_nil))) e2)
  unfold f__law_wider fn b__law_wider
  show fnEnd false (tw p q R).length (sSeq _ (sSeq _ _) [.scr (ns.map D.int), .loc 0, formD f, .und, .und] (tw p q R)) = _
  rw [sSeq_nx s1, sSeq_nx s2, x_ret]
  have e : fOp2 (oAdd false) (fOp2 (oAdd false) (fCut false (fVar 2) (fNoPart) (fPart (fVar 3))) (fTup (fCons (fVar 4) (fNil)))) (fCut false (fVar 2) (fPart (fVar 3)) (fNoPart)) [.scr (ns.map D.int), .loc 0, formD f, .int i, u.D] (tw p2 q2 R) = .ok (formD (f.take i ++ u :: f.drop i)) (tw p2 q2 R) := by
    have en : formD (f.take i ++ u :: f.drop i) = .tup ((f.map Lv.D).take i ++ [u.D] ++ (f.map Lv.D).drop i) := by
      show D.tup ((f.take i ++ u :: f.drop i).map Lv.D) = _
      rw [List.map_append, List.map_cons, List.map_take, List.map_drop, List.append_assoc]; rfl
    rw [en]
    exact op2F (op2F (fcutT rfl rfl (partF rfl) c1) rfl a1) (fcutT rfl (partF (i := (i : Int)) rfl) rfl c2) a2
  rw [e]
  exact end_rt (by simp)
/-- all that the law asks of a form -/
def allD (f : List Lv) (x : Rat) : D := .lst [.int (leastM f), oI (mostM f), oI (surO f), frD (chC f x), frD (exM f x 1)]
theorem t_all {f : List Lv} {n d : Int} {S : Sto} (hf : Form f) (ha : ∀ v ∈ f, v ∈ lvAll) (h : 0 ≤ n ∧ n ≤ d) (hd : 1 ≤ d ∧ d ≤ 1000) (hx : okX f (Rat.divInt n d)) (hy : okY f (Rat.divInt n d) 1) :
    pureF f__law_all [formD f, .tup [.int n, .int d]] S = .ok (allD f (Rat.divInt n d)) S := by
  have vk : ∀ v ∈ f, VOk v := fun v hv => vok_all (ha v hv)
  refine pure_eq (by simp [lowL, low_form']; rfl) ?_
  unfold f__law_all fn b__law_all
  show fnEnd false 0 (sRet _ [formD f, .tup [.int n, .int d]] []) = _
  have v0 : fVar 0 [formD f, .tup [.int n, .int d]] [] = .ok (formD f) [] := rfl
  have v1 : fVar 1 [formD f, .tup [.int n, .int d]] [] = .ok (.tup [.int n, .int d]) [] := rfl
  have cs := consF (callF (consF v0 x_nil) (t_shortest (S := []) hf)) (consF (callF (consF v0 x_nil) (t_longest (S := []) hf ha)) (consF (callF (consF v0 x_nil) (t_surplusO (S := []) hf ha)) (consF (callF (consF v0 (consF v1 x_nil)) (t_chanceX (S := []) hf vk h hd hx)) (consF (callF (consF v0 (consF v1 x_nil)) (t_expectationY (S := []) hf vk h hd hy)) x_nil))))
  rw [x_ret]
  have e : ∀ {fs : FA} {xs : List D} {env : En} {S : Sto}, fs env S = .ok xs S → fLst false fs env S = outO (mkL false xs S) := fun h => by unfold fLst; rw [h]; rfl
  rw [e cs]
  exact end_rt rfl
theorem pl_all {f : List Lv} {x : Rat} : pl 2 (allD f x) = true := by
  show plL 1 [.int _, oI _, oI _, frD _, frD _] = true
  rw [plL_cons, plL_cons, plL_cons, plL_cons, plL_cons, plL_nil, pl_oI, pl_oI]; rfl
/-! the sizes -/
theorem all_t {v : Lv} (h : v ∈ lvAll) : v.t ≤ 4 := by
  have := List.all_eq_true.mp (show (lvAll.all fun v => decide (v.t ≤ 4)) = true by decide +kernel) v h
  exact of_decide_eq_true this
theorem bd_rep {b : Nat × Nat × Nat} {Q : Lv → Lv → Prop} : ∀ {f g : List Lv}, RelL Q f g → (∀ v ∈ f, ∀ w, Q v w → Bd1 b v w) → Bd (List.replicate f.length b) f g
  | [], [], _, _ => trivial
  | [], _ :: _, h, _ => h.elim
  | _ :: _, [], h, _ => h.elim
  | v :: f, w :: g, h, k => ⟨k v (by simp) w h.1, bd_rep h.2 fun v hv => k v (by simp [hv])⟩
theorem bd_self {b : Nat × Nat × Nat} : ∀ {f : List Lv}, (∀ v ∈ f, Bd1 b v v) → Bd (List.replicate f.length b) f f
  | [], _ => trivial
  | v :: f, k => ⟨k v (by simp), bd_self fun v hv => k v (by simp [hv])⟩
theorem bd_app : ∀ {bs cs : List (Nat × Nat × Nat)} {A B : List Lv}, Bd bs A A → Bd cs B B → Bd (bs ++ cs) (A ++ B) (A ++ B)
  | [], _, [], _, _, h => h
  | [], _, _ :: _, _, h, _ => h.elim
  | _ :: _, _, [], _, h, _ => h.elim
  | _ :: bs, cs, _ :: A, B, h, k => ⟨h.1, bd_app h.2 k⟩
theorem bd_big {v w : Lv} (hv : v ∈ lvAll) (hw : w ∈ lvAll) (e : Eqv v w) : Bd1 (30, 14, 15) v w := by
  have a := cv_le (m := 4) hv (all_t hv) (.inr (.inr rfl))
  have b := cv_le (m := 4) hw (all_t hw) (.inr (.inr rfl))
  simp at a b
  exact ⟨a.1, b.1, a.2.1, a.2.2, vok_all hv, vok_all hw, e⟩
theorem bd_small {v w : Lv} (hv : v ∈ lvAll) (hw : w ∈ lvAll) (h2 : v.t ≤ 2) (h3 : w.t ≤ 3) (e : Eqv v w) : Bd1 (26, 10, 11) v w := by
  have a := cv_le (m := 2) hv h2 (.inl rfl)
  have b := cv_le (m := 3) hw h3 (.inr (.inl rfl))
  simp at a b
  exact ⟨Nat.le_trans a.1 (by decide), b.1, a.2.1, a.2.2, vok_all hv, vok_all hw, e⟩
theorem bd_sng {u : Lv} (hu : u ∈ widL) : Bd1 (1, 1, 1) u u := by
  have k := List.all_eq_true.mp sng_all u hu
  unfold sngB at k
  simp only [Bool.and_eq_true] at k
  obtain ⟨_, _, _, k4, k5, k6⟩ := k
  have vk := vok_all (widL_all hu)
  exact ⟨Nat.le_of_ble_eq_true k4, Nat.le_of_ble_eq_true k4, Nat.le_of_ble_eq_true k5, Nat.le_of_ble_eq_true k6, vk, vk, .refl⟩
theorem one_den : (1 : Rat).den ≤ 1 := Nat.le_refl _
theorem wr_bd {f g : List Lv} {x : Rat} (hd : Drawn f) (h : WrF f g) (hx : 0 ≤ x.num ∧ x.num ≤ x.den) (h9 : x.den ≤ 9) : BdR f g x 1 := by
  have ol := hd.old
  by_cases h3 : f.length = 3
  · have ht : ∀ v ∈ f, v.t ≤ 2 := fun v hv => by
      have := (hd.2.2 v hv).2.1
      unfold mostT at this
      rw [h3] at this
      simpa using this
    refine bd_ok (bd_rep (b := (26, 10, 11)) h fun v hv w hw => bd_small (old_all (ol v hv)) (wrt_all (ol v hv) hw) (ht v hv) ?_ (wrt_eqv (ol v hv) hw)) hx h9 one_den ?_
    · have ov := lvAll_ok (old_all (ol v hv))
      have := ht v hv
      rcases wrt_cases ov (by omega) hw with ⟨_, _, h, _⟩ | ⟨_, h, _⟩ | ⟨_, _, rfl⟩ | rfl
      · omega
      · omega
      · exact ov.2.2.2.1
      · omega
    · rw [h3]
      show szL [(26, 10, 11), (26, 10, 11), (26, 10, 11)] 9 1 = true
      decide +kernel
  · have l1 := hd.1
    have l2 := hd.2.1
    refine bd_ok (bd_rep (b := (30, 14, 15)) h fun v hv w hw => bd_big (old_all (ol v hv)) (wrt_all (ol v hv) hw) (wrt_eqv (ol v hv) hw)) hx h9 one_den ?_
    have : f.length = 1 ∨ f.length = 2 := by omega
    rcases this with e | e <;> rw [e]
    · show szL [(30, 14, 15)] 9 1 = true
      decide +kernel
    · show szL [(30, 14, 15), (30, 14, 15)] 9 1 = true
      decide +kernel
theorem wide_bd {A B : List Lv} {u : Lv} {x : Rat} (hd : Drawn (A ++ B)) (hl : (A ++ B).length < 3) (hu : u ∈ widL) (hx : 0 ≤ x.num ∧ x.num ≤ x.den) (h9 : x.den ≤ 9) : BdR (A ++ u :: B) (A ++ u :: B) x 1 := by
  have all := hd.all
  have bA : Bd (List.replicate A.length (30, 14, 15)) A A := bd_self fun v hv => bd_big (all v (by simp [hv])) (all v (by simp [hv])) .refl
  have bB : Bd (List.replicate B.length (30, 14, 15)) B B := bd_self fun v hv => bd_big (all v (by simp [hv])) (all v (by simp [hv])) .refl
  refine bd_ok (bd_app bA (cs := (1, 1, 1) :: List.replicate B.length (30, 14, 15)) (B := u :: B) ⟨bd_sng hu, bB⟩) hx h9 one_den ?_
  have l1 := hd.1
  rw [List.length_append] at l1 hl
  have key : ∀ a b : Nat, a + b < 3 → szL (List.replicate a (30, 14, 15) ++ (1, 1, 1) :: List.replicate b (30, 14, 15)) 9 1 = true := fun a b h => by
    have k : ([(0, 0), (0, 1), (0, 2), (1, 0), (1, 1), (2, 0)].all fun ab : Nat × Nat => szL (List.replicate ab.1 (30, 14, 15) ++ (1, 1, 1) :: List.replicate ab.2 (30, 14, 15)) 9 1) = true := by decide +kernel
    exact List.all_eq_true.mp k (a, b) (by simp; omega)
  exact key _ _ hl
theorem nn0 : nnU u0 := by unfold nnU u0; decide
theorem wr_allD {f g : List Lv} {x : Rat} (hd : Drawn f) (h : WrF f g) (b : BdR f g x 1) : allD g x = allD f x := by
  obtain ⟨e1, e2⟩ := least_same hd.old h
  have e3 : surO g = surO f := by unfold surO; rw [fin_same hd.old h nn0]
  unfold allD
  rw [e1, e2, e3, b.ch, b.ex]
theorem wide_allD {A B : List Lv} {u : Lv} {x : Rat} (hu : u ∈ widL) (hx : okX (A ++ u :: B) x) : allD (A ++ u :: B) x = allD (A ++ B) x := by
  obtain ⟨e1, e2⟩ := wide_least hu (A := A) (B := B)
  have e3 : surO (A ++ u :: B) = surO (A ++ B) := by unfold surO; rw [wide_fin hu]
  obtain ⟨e4, e5⟩ := wide_ch hu (m := 1) hx
  unfold allD
  rw [e1, e2, e3, e4, e5]
/-! the best of many -/
abbrev bst (t : Int) : Lv := ⟨t, 1, none⟩
theorem bst_ok {t : Int} (h1 : 1 ≤ t) (h2 : t ≤ 5) : (bst t).Ok := ⟨h1, h2, (show (1 : Int) ≤ 1 by decide), (show (1 : Int) ≤ 3 by decide), fun c h => by cases h⟩
theorem one_form {v : Lv} (h : v.Ok) : Form [v] := ⟨Nat.le_refl _, (show 1 ≤ 3 by decide), fun u hu => by rw [List.mem_singleton.mp hu]; exact h⟩
theorem one_few {v w : Lv} (hv : v.Ok) (hw : w.Ok) : Few [v] [w] := by
  have b : ∀ v : Lv, (bx v).length ≤ 100 := fun v => Nat.le_trans (List.length_filter_le _ _) (by decide +kernel)
  exact Few.box (one_form hv).2.2 (one_form hw).2.2 (Nat.lt_of_le_of_lt (Nat.mul_le_mul (Nat.mul_le_mul (b v) (Nat.le_refl 1)) (Nat.mul_le_mul (b w) (Nat.le_refl 1))) (by decide))
theorem best1 {t : Int} (h1 : 1 ≤ t) (h2 : t ≤ 5) {S : Sto} : pureF f_parting [formD [bst t], formD [⟨t, 2, some t⟩]] S = .ok .non S := by
  have ow : (⟨t, 2, some t⟩ : Lv).Ok := ⟨h1, h2, (show (1 : Int) ≤ 2 by decide), (show (2 : Int) ≤ 3 by decide), fun c h => by cases h; exact ⟨Int.le_refl _, by show t ≤ 9; omega⟩⟩
  obtain ⟨o, ho, _, e⟩ := t_parting (one_form (bst_ok h1 h2)) (one_form ow) (one_few (bst_ok h1 h2) ow)
  have sg : SmG (bst t) ⟨t, 2, some t⟩ := fun p s r hs => by
    unfold lwonP
    obtain ⟨a, b⟩ := own_le (r.one rfl).1 (r.one rfl).2 hs
    rw [lwon_lead1 (v := bst t) rfl (fun c h => by cases h) a b, lwon_capt (v := ⟨t, 2, some t⟩) rfl a]
  have := parted_same (fun r hr => by rw [play_same (f := [bst t]) (g := [⟨t, 2, some t⟩]) ⟨sg, trivial⟩ (one_form (bst_ok h1 h2)).2.2 r hr]) ho
  subst this
  exact e S
theorem best2 {t : Int} (h1 : 1 ≤ t) (h2 : t < 5) {S : Sto} : ∃ w, pureF f_parting [formD [bst t], formD [bst (t + 1)]] S = .ok (rowD w) S := by
  obtain ⟨o, ho, _, e⟩ := t_parting (one_form (bst_ok h1 (by omega))) (one_form (bst_ok (t := t + 1) (by omega) (by omega))) (one_few (bst_ok h1 (by omega)) (bst_ok (t := t + 1) (by omega) (by omega)))
  cases o with
  | some w => exact ⟨w, e S⟩
  | none =>
    exfalso
    have sd : ∀ n : Nat, Sides (List.replicate n (0 : Int)) := fun n x hx => .inl (List.eq_of_mem_replicate hx)
    have cs : t = 1 ∨ t = 2 ∨ t = 3 ∨ t = 4 := by omega
    rcases cs with rfl | rfl | rfl | rfl
    · exact absurd (ho _ (sd 1)) (by decide)
    · exact absurd (ho _ (sd 2)) (by decide)
    · exact absurd (ho _ (sd 3)) (by decide)
    · exact absurd (ho _ (sd 4)) (by decide)
theorem best3 {t : Int} (h1 : 1 ≤ t) (h2 : t ≤ 5) {S : Sto} : pureF f_longest [formD [bst t]] S = .ok (.int (2 * t - 1)) S := by
  have k : ([1, 2, 3, 4, 5].all fun t : Int => chk (f_longest [formD [bst t]] []) (.int (2 * t - 1))) = true := by decide +kernel
  exact pure_eq low_form (chk_ok (List.all_eq_true.mp k t (by simp; omega)))
theorem law_true : ∀ ns : List Int, ns.length ≤ 63 → ∃ S', f_law [.scr (ns.map D.int)] [] = .ok (.bl true) S' := by
  intro ns _
  obtain ⟨f, p1, q1, df, hp, hq, e1⟩ := t_form (ns := ns) (R := []) (p := 0) (q := 0) (by omega) (by omega)
  obtain ⟨r, p2, q2, r1, r2, hp, hq, e2⟩ := t_draw (ns := ns) (n := 8) (R := []) (by omega) (by omega) hp hq
  obtain ⟨n, p3, q3, n1, n2, hp, hq, e3⟩ := t_draw (ns := ns) (n := 2 + r + 1) (R := []) (by omega) (by omega) hp hq
  obtain ⟨d, hd⟩ : ∃ d, d = 2 + r := ⟨_, rfl⟩
  have hn : 0 ≤ n ∧ n ≤ d := by omega
  have hd1 : 1 ≤ d ∧ d ≤ 1000 := by omega
  obtain ⟨xu, xd⟩ := divInt_unit hn hd1.1
  have x9 : (Rat.divInt n d).den ≤ 9 := by omega
  have e3 : f__law_draw [.scr (ns.map D.int), .loc 0, .int (d + 1)] (tw p2 q2 []) = .ok (.int n) (tw p3 q3 []) := by rw [hd]; exact e3
  have ff := df.form
  obtain ⟨g, p4, q4, hg, hp, hq, e4⟩ := comp_rel (e := fCall f__law_written (fCons (fVar 0) (fCons (fVar 1) (fCons (fVar 10) (fNil))))) (env := [.scr (ns.map D.int), .loc 0, formD f, .int d, .tup [.int n, .int d], .und, .und, .und, .und, .und, .und]) (j := 10) (R := []) (Q := fun v w => w ∈ wrt v) f p3 q3 (fun v hv p q hp hq => by
    obtain ⟨w, p', q', hw, hp, hq, e⟩ := t_written (ns := ns) (v := v) (R := []) hp hq
    exact ⟨w, p', q', hw, hp, hq, callF (consF rfl (consF rfl (consF rfl x_nil))) e⟩) hp hq
  have hg : WrF f g := hg
  have bd := wr_bd df hg xu x9
  have fg := wr_form df hg
  have A1 := fun S => t_all (S := S) ff df.all hn hd1 bd.x1 bd.y1
  have A2 := fun S => t_all (S := S) fg (wr_ok df hg) hn hd1 bd.x2 bd.y2
  rw [wr_allD df hg bd] at A2
  have P1 := fun S => wr_part (S := S) df hg
  have lf : fit f.length = true := fit_of (by have := df.2.1; omega)
  have lg : fit g.length = true := fit_of (by rw [RelL.len hg]; have := df.2.1; omega)
  have s1 : sAsg 1 (fLst true (fCons (fCon (.int 0)) (fCons (fCon (.int 0)) (fNil)))) [.scr (ns.map D.int), .und, .und, .und, .und, .und, .und, .und, .und, .und, .und] [] = .nx [.scr (ns.map D.int), .loc 0, .und, .und, .und, .und, .und, .und, .und, .und, .und] (tw 0 0 []) := rfl
  have s2 : sAsg 2 (fCall f__law_form (fCons (fVar 0) (fCons (fVar 1) (fNil)))) [.scr (ns.map D.int), .loc 0, .und, .und, .und, .und, .und, .und, .und, .und, .und] (tw 0 0 []) = .nx [.scr (ns.map D.int), .loc 0, formD f, .und, .und, .und, .und, .und, .und, .und, .und] (tw p1 q1 []) := asgF (callF (consF rfl (consF rfl x_nil)) e1)
  have s3 : sAsg 3 (fOp2 (oAdd false) (fCon (.int 2)) (fCall f__law_draw (fCons (fVar 0) (fCons (fVar 1) (fCons (fCon (.int 8)) (fNil)))))) [.scr (ns.map D.int), .loc 0, formD f, .und, .und, .und, .und, .und, .und, .und, .und] (tw p1 q1 []) = .nx [.scr (ns.map D.int), .loc 0, formD f, .int d, .und, .und, .und, .und, .und, .und, .und] (tw p2 q2 []) := by
    rw [hd]
    exact asgF (op2F rfl (callF (consF rfl (consF rfl (consF rfl x_nil))) e2) rfl)
  have s4 : sAsg 4 (fTup (fCons (fCall f__law_draw (fCons (fVar 0) (fCons (fVar 1) (fCons (fOp2 (oAdd false) (fVar 3) (fCon (.int 1))) (fNil))))) (fCons (fVar 3) (fNil)))) [.scr (ns.map D.int), .loc 0, formD f, .int d, .und, .und, .und, .und, .und, .und, .und] (tw p2 q2 []) = .nx [.scr (ns.map D.int), .loc 0, formD f, .int d, .tup [.int n, .int d], .und, .und, .und, .und, .und, .und] (tw p3 q3 []) := by
    refine asgF ?_
    rw [x_tup, consF (callF (consF rfl (consF rfl (consF (op2F rfl rfl rfl) x_nil))) e3) (consF rfl x_nil)]; rfl
  have s5 : sAsg 5 (fOpN (oTuple) (fCons (fComp false (iSq (fVar 2)) (tgName 10) (tYesF) (fCall f__law_written (fCons (fVar 0) (fCons (fVar 1) (fCons (fVar 10) (fNil))))) [10]) (fNil))) [.scr (ns.map D.int), .loc 0, formD f, .int d, .tup [.int n, .int d], .und, .und, .und, .und, .und, .und] (tw p3 q3 []) = .nx [.scr (ns.map D.int), .loc 0, formD f, .int d, .tup [.int n, .int d], formD g, .und, .und, .und, .und, .und] (tw p4 q4 []) := by
    refine asgF (x := formD g) (opNF0 (ds := [.lst (g.map Lv.D)]) (S1 := tw p4 q4 []) (consF ?_ x_nil) rfl)
    rw [x_comp]
    show (bif fit (f.map Lv.D).length then (match compL (tgName 10) tYesF _ [.scr (ns.map D.int), .loc 0, formD f, .int d, .tup [.int n, .int d], .und, .und, .und, .und, .und, .und] (f.map Lv.D) (tw p3 q3 []) with
      | .ok xs S2 => bif false then Out.ok (D.loc S2.length) (S2 ++ [Ob.lst xs]) else Out.ok (D.lst xs) S2
      | _ => Out.bad) else .bad) = _
    rw [List.length_map, lf, e4]; rfl
  have s6 : sAsg 6 (fCall (pureF f__law_all) (fCons (fVar 2) (fCons (fVar 4) (fNil)))) [.scr (ns.map D.int), .loc 0, formD f, .int d, .tup [.int n, .int d], formD g, .und, .und, .und, .und, .und] (tw p4 q4 []) = .nx [.scr (ns.map D.int), .loc 0, formD f, .int d, .tup [.int n, .int d], formD g, allD f (Rat.divInt n d), .und, .und, .und, .und] (tw p4 q4 []) := asgF (callF (consF rfl (consF rfl x_nil)) (A1 _))
  have ne : ∀ S, oNe (allD f (Rat.divInt n d)) (allD f (Rat.divInt n d)) S = some (.bl false, S) := fun S => oNe_self pl_all (by omega)
  have nn : ∀ S, oIsN .non .non S = some (.bl false, S) := fun S => rfl
  have s7 : sIf (Sf.tOr (tVal (fOp2 oIsN (fCall (pureF f_parting) (fCons (fVar 2) (fCons (fVar 5) (fNil)))) (fCon .non))) (tVal (fOp2 oNe (fCall (pureF f__law_all) (fCons (fVar 5) (fCons (fVar 4) (fNil)))) (fVar 6)))) (sRet (fCon (.bl false))) (sSkip) [.scr (ns.map D.int), .loc 0, formD f, .int d, .tup [.int n, .int d], formD g, allD f (Rat.divInt n d), .und, .und, .und, .und] (tw p4 q4 []) = .nx [.scr (ns.map D.int), .loc 0, formD f, .int d, .tup [.int n, .int d], formD g, allD f (Rat.divInt n d), .und, .und, .und, .und] (tw p4 q4 []) := by
    rw [sIf_no (orFF (valF (op2F (callF (consF rfl (consF rfl x_nil)) (P1 _)) rfl (nn _))) (valF (op2F (callF (consF rfl (consF rfl x_nil)) (A2 _)) rfl (ne _))))]; rfl
  have s8 : ∃ x7 p5 q5, 0 ≤ p5 ∧ 0 ≤ q5 ∧ sIf (tVal (fOp2 oLt (fOpN oLen (fCons (fVar 2) (fNil))) (fCon (.int 3)))) (sSeq (sAsg 7 (fCall f__law_wider (fCons (fVar 0) (fCons (fVar 1) (fCons (fVar 2) (fNil))))))
    (sSeq (sIf (Sf.tOr (tVal (fOp2 oIsN (fCall (pureF f_parting) (fCons (fVar 2) (fCons (fVar 7) (fNil)))) (fCon .non))) (tVal (fOp2 oIsN (fCall (pureF f_parting) (fCons (fVar 7) (fCons (fVar 2) (fNil)))) (fCon .non)))) (sRet (fCon (.bl false))) (sSkip))
    (sIf (tVal (fOp2 oNe (fCall (pureF f__law_all) (fCons (fVar 7) (fCons (fVar 4) (fNil)))) (fVar 6))) (sRet (fCon (.bl false))) (sSkip)))) (sSkip) [.scr (ns.map D.int), .loc 0, formD f, .int d, .tup [.int n, .int d], formD g, allD f (Rat.divInt n d), .und, .und, .und, .und] (tw p4 q4 []) = .nx [.scr (ns.map D.int), .loc 0, formD f, .int d, .tup [.int n, .int d], formD g, allD f (Rat.divInt n d), x7, .und, .und, .und] (tw p5 q5 []) := by
    have tl : tVal (fOp2 oLt (fOpN oLen (fCons (fVar 2) (fNil))) (fCon (.int 3))) [.scr (ns.map D.int), .loc 0, formD f, .int d, .tup [.int n, .int d], formD g, allD f (Rat.divInt n d), .und, .und, .und, .und] (tw p4 q4 []) = .ok (decide ((f.length : Int) < 3)) (tw p4 q4 []) :=
      valF (op2F (opNF0 (consF rfl x_nil) (by rw [x_lenT, List.length_map])) rfl (by simp))
    by_cases h3 : f.length < 3
    · rw [decide_eq_true (by omega)] at tl
      obtain ⟨A, B, u, p5, q5, hf, hu, hp, hq, e5⟩ := t_wider (ns := ns) (R := []) h3 hp hq
      have df' := df
      rw [hf] at df' h3
      have wb := wide_bd df' h3 hu xu x9
      have wf := wide_form df' h3 hu
      have wp := fun S => wide_part (S := S) df' h3 hu
      have A3 := fun S => t_all (S := S) wf (fun v hv => by
        rcases List.mem_append.mp hv with hv | hv
        · exact df'.all v (List.mem_append_left _ hv)
        · rcases List.mem_cons.mp hv with rfl | hv
          · exact widL_all hu
          · exact df'.all v (List.mem_append_right _ hv)) hn hd1 wb.x1 wb.y1
      rw [wide_allD hu wb.x1, ← hf] at A3
      rw [← hf] at wp
      refine ⟨formD (A ++ u :: B), p5, q5, hp, hq, ?_⟩
      rw [sIf_yes tl, sSeq_nx (asgF (callF (consF rfl (consF rfl (consF rfl x_nil))) e5))]
      rw [sSeq_nx (e' := [.scr (ns.map D.int), .loc 0, formD f, .int d, .tup [.int n, .int d], formD g, allD f (Rat.divInt n d), formD (A ++ u :: B), .und, .und, .und]) (S' := tw p5 q5 []) (by
        rw [sIf_no (orFF (valF (op2F (callF (consF rfl (consF rfl x_nil)) (wp _).1) rfl (nn _))) (valF (op2F (callF (consF rfl (consF rfl x_nil)) (wp _).2) rfl (nn _))))]; rfl)]
      rw [sIf_no (valF (op2F (callF (consF rfl (consF rfl x_nil)) (A3 _)) rfl (ne _)))]; rfl
    · rw [decide_eq_false (by omega)] at tl
      exact ⟨.und, p4, q4, hp, hq, by rw [sIf_no tl]; rfl⟩
  obtain ⟨x7, p5, q5, hp, hq, s8⟩ := s8
  obtain ⟨k, p6, q6, k1, k2, hp, hq, e6⟩ := t_draw (ns := ns) (n := 5) (R := []) (by omega) (by omega) hp hq
  obtain ⟨t, ht⟩ : ∃ t, t = 1 + k := ⟨_, rfl⟩
  have t1 : 1 ≤ t := by omega
  have t5 : t ≤ 5 := by omega
  have s9 : sAsg 8 (fOp2 (oAdd false) (fCon (.int 1)) (fCall f__law_draw (fCons (fVar 0) (fCons (fVar 1) (fCons (fCon (.int 5)) (fNil)))))) [.scr (ns.map D.int), .loc 0, formD f, .int d, .tup [.int n, .int d], formD g, allD f (Rat.divInt n d), x7, .und, .und, .und] (tw p5 q5 []) = .nx [.scr (ns.map D.int), .loc 0, formD f, .int d, .tup [.int n, .int d], formD g, allD f (Rat.divInt n d), x7, .int t, .und, .und] (tw p6 q6 []) := by
    rw [ht]
    exact asgF (op2F rfl (callF (consF rfl (consF rfl (consF rfl x_nil))) e6) rfl)
  have s10 : sAsg 9 (fTup (fCons (fTup (fCons (fVar 8) (fCons (fCon (.int 1)) (fCons (fCon .non) (fNil))))) (fNil))) [.scr (ns.map D.int), .loc 0, formD f, .int d, .tup [.int n, .int d], formD g, allD f (Rat.divInt n d), x7, .int t, .und, .und] (tw p6 q6 []) = .nx [.scr (ns.map D.int), .loc 0, formD f, .int d, .tup [.int n, .int d], formD g, allD f (Rat.divInt n d), x7, .int t, formD [bst t], .und] (tw p6 q6 []) := rfl
  have s11 : sIf (tVal (fOp2 oIsN (fCall (pureF f_parting) (fCons (fVar 9) (fCons (fTup (fCons (fTup (fCons (fVar 8) (fCons (fCon (.int 2)) (fCons (fVar 8) (fNil))))) (fNil))) (fNil)))) (fCon .non))) (sRet (fCon (.bl false))) (sSkip) [.scr (ns.map D.int), .loc 0, formD f, .int d, .tup [.int n, .int d], formD g, allD f (Rat.divInt n d), x7, .int t, formD [bst t], .und] (tw p6 q6 []) = .nx [.scr (ns.map D.int), .loc 0, formD f, .int d, .tup [.int n, .int d], formD g, allD f (Rat.divInt n d), x7, .int t, formD [bst t], .und] (tw p6 q6 []) := by
    rw [sIf_no (valF (op2F (callF (consF rfl (consF (x := formD [⟨t, 2, some t⟩]) (S1 := tw p6 q6 []) (by rfl) x_nil)) (best1 t1 t5)) rfl (nn _)))]; rfl
  have s12 : sIf (Sf.tAnd (tVal (fOp2 oLt (fVar 8) (fCon (.int 5)))) (tVal (fOp2 oIs (fCall (pureF f_parting) (fCons (fVar 9) (fCons (fTup (fCons (fTup (fCons (fOp2 (oAdd false) (fVar 8) (fCon (.int 1))) (fCons (fCon (.int 1)) (fCons (fCon .non) (fNil))))) (fNil))) (fNil)))) (fCon .non)))) (sRet (fCon (.bl false))) (sSkip) [.scr (ns.map D.int), .loc 0, formD f, .int d, .tup [.int n, .int d], formD g, allD f (Rat.divInt n d), x7, .int t, formD [bst t], .und] (tw p6 q6 []) = .nx [.scr (ns.map D.int), .loc 0, formD f, .int d, .tup [.int n, .int d], formD g, allD f (Rat.divInt n d), x7, .int t, formD [bst t], .und] (tw p6 q6 []) := by
    have tl : tVal (fOp2 oLt (fVar 8) (fCon (.int 5))) [.scr (ns.map D.int), .loc 0, formD f, .int d, .tup [.int n, .int d], formD g, allD f (Rat.divInt n d), x7, .int t, formD [bst t], .und] (tw p6 q6 []) = .ok (decide (t < 5)) (tw p6 q6 []) := valF (op2F rfl rfl (by simp))
    by_cases h5 : t < 5
    · rw [decide_eq_true h5] at tl
      obtain ⟨w, ew⟩ := best2 (S := tw p6 q6 []) t1 h5
      rw [sIf_no (andTT tl (valF (op2F (callF (consF rfl (consF (x := formD [bst (t + 1)]) (S1 := tw p6 q6 []) (by rfl) x_nil)) ew) rfl rfl)))]; rfl
    · rw [decide_eq_false h5] at tl
      rw [sIf_no (andFF tl)]; rfl
  have B3 := fun S => best3 (S := S) t1 t5
  have B4 := fun S => t_shortest (S := S) (one_form (bst_ok t1 t5))
  have lm : leastM [bst t] = t := by
    show max t 1 * 1 = t
    omega
  rw [lm] at B4
  have y1 : ∀ (i : Int) S, oEq (.int i) (.int i) S = some (.bl true, S) := fun i S => oEq_self (n := 0) rfl (by omega)
  have m2 : ∀ S, oMul false (.int 2) (.int t) S = some (.int (2 * t), S) := fun S => mul_l rfl
  refine ⟨[], ?_⟩
  unfold f_law fn b_law
  show fnEnd false 0 (sSeq _ (sSeq _ _) [.scr (ns.map D.int), .und, .und, .und, .und, .und, .und, .und, .und, .und, .und] []) = _
  rw [sSeq_nx s1, sSeq_nx s2, sSeq_nx s3, sSeq_nx s4, sSeq_nx s5, sSeq_nx s6, sSeq_nx s7, sSeq_nx s8, sSeq_nx s9, sSeq_nx s10, sSeq_nx s11, sSeq_nx s12]
  rw [x_ret, fandT (op2F (callF (consF rfl x_nil) (B3 _)) (op2F (op2F rfl rfl (m2 _)) rfl rfl) (y1 _ _)) (op2F (callF (consF rfl x_nil) (B4 _)) rfl (y1 _ _))]
  exact end_pl (n := 0) rfl (by omega)

end Sf
end

section
set_option Elab.async false
set_option maxRecDepth 100000
set_option maxHeartbeats 4000000
namespace Sf
open PySem PySem.Spec PyProof.Rows L2
def top (i : Nat) : Stmt := PySem.Challenge.pw_scoreforms_k14_whole_same_forms.main.body.getD i (.Pass ⟨0, 0, 0, 0⟩)
structure TX (mg : Str → Option Value) : Prop where
  n_abs : mg "abs" = none
  n_all : mg "all" = none
  n_bool : mg "bool" = none
  n_enumerate : mg "enumerate" = none
  n_int : mg "int" = none
  n_isinstance : mg "isinstance" = none
  n_len : mg "len" = none
  n_list : mg "list" = none
  n_max : mg "max" = none
  n_min : mg "min" = none
  n_range : mg "range" = none
  n_sum : mg "sum" = none
  n_tuple : mg "tuple" = none
  n_zip : mg "zip" = none
  c_TARGET : ∃ t, mg "TARGET" = some (.int 5 t)
  c_LEAD : ∃ t, mg "LEAD" = some (.int 3 t)
  c_CAP : ∃ t, mg "CAP" = some (.int 9 t)
  c_LEVELS : ∃ t, mg "LEVELS" = some (.int 3 t)
section
variable {P : Program} {w : World} {K : PySem.W.Frag} {mg : Str → Option Value} {base : Heap} {xm : XM}
abbrev s_is_count : Stmt := top 9
theorem sc_is_count : FnScope ["value", "least", "most"] ["value", "least", "most"] (defScope s_is_count) := ⟨rfl, rfl, rfl, by decide +kernel, rfl, by decide +kernel, by decide +kernel⟩
theorem ok_is_count {f : Addr} {fd : FuncData} (F : Fun K "is_count" "is_count" s_is_count f fd) (T : TX mg) : FnOk P w K mg base (L2.CX P w) 1 f fd ["value", "least", "most"] (spOf ⟨P, w, K⟩ xm 3 f_is_count) :=
  fn_ok (N := ["value", "least", "most"]) (m := false) (b := b_is_count) xm F sc_is_count fun cdv A outer s H E W hr tk =>
    ss_one (ss_ret (se_and (se_callB callr_isa ok_isa (sa_cons (se_var (pv 0)) (sa_cons (se_ty T.n_int bt_int) (sa_nil))) rfl T.n_isinstance bt_isinstance) (se_and (se_not (se_callB callr_isa ok_isa (sa_cons (se_var (pv 0)) (sa_cons (se_ty T.n_bool bt_bool) (sa_nil))) rfl T.n_isinstance bt_isinstance)) (se_one (se_chain op_le op_le (se_var (pv 1)) (se_var (pv 0)) (se_var (pv 2)))))))
abbrev s_round_winner : Stmt := top 14
theorem sc_round_winner : FnScope ["level", "pair", "target", "lead", "cap", "side"] ["level", "pair"] (defScope s_round_winner) := ⟨rfl, rfl, rfl, by decide +kernel, rfl, by decide +kernel, by decide +kernel⟩
theorem ok_round_winner {f : Addr} {fd : FuncData} (F : Fun K "round_winner" "round_winner" s_round_winner f fd) (T : TX mg) : FnOk P w K mg base (L2.CX P w) 1 f fd ["level", "pair"] (spOf ⟨P, w, K⟩ xm 2 f_round_winner) :=
  fn_ok (N := ["level", "pair", "target", "lead", "cap", "side"]) (m := false) (b := b_round_winner) xm F sc_round_winner fun cdv A outer s H E W hr tk =>
    ss_cons (ss_asgT (sg_tup (n := 3) (sgs_cons (pg_name (i := 2) sc_round_winner.nd rfl (Or.inl rfl)) (sgs_cons (pg_name (i := 3) sc_round_winner.nd rfl (Or.inl rfl)) (sgs_cons (pg_name (i := 4) sc_round_winner.nd rfl (Or.inl rfl)) (sgs_nil)))) rfl rfl) (se_var (pv 0)))
    (ss_cons (ss_set (i := 5) sc_round_winner.nd rfl (Or.inl rfl) (se_if (st_cmp op_gt ok_cmpI (se_ix ixr ok_ix (se_var (pv 1)) (se_int)) (se_ix ixr ok_ix (se_var (pv 1)) (se_int))) (se_int) (se_int)))
    (ss_cons (ss_if (st_bool (sw_or (st_bool (sw_and (st_cmp op_ge ok_cmpI (se_ix ixr ok_ix (se_var (pv 1)) (se_var (pv 5))) (se_var (pv 2))) (sw_and1 (st_cmp op_ge ok_cmpI (se_bin op_sub ok_sub (se_ix ixr ok_ix (se_var (pv 1)) (se_var (pv 5))) (se_ix ixr ok_ix (se_var (pv 1)) (se_bin op_sub ok_sub (se_int) (se_var (pv 5))))) (se_var (pv 3)))))) (sw_or1 (st_cmp (opr_eq hr) ok_eq (se_ix ixr ok_ix (se_var (pv 1)) (se_var (pv 5))) (se_var (pv 4)))))) (ss_one (ss_ret (se_var (pv 5)))) (ss_nil))
    (ss_one (ss_ret (se_non)))))
abbrev s_start_of : Stmt := top 15
theorem sc_start_of : FnScope ["form"] ["form"] (defScope s_start_of) := ⟨rfl, rfl, rfl, by decide +kernel, rfl, by decide +kernel, by decide +kernel⟩
theorem ok_start_of {f : Addr} {fd : FuncData} (F : Fun K "start_of" "start_of" s_start_of f fd) (T : TX mg) : FnOk P w K mg base (L2.CX P w) 1 f fd ["form"] (spOf ⟨P, w, K⟩ xm 1 f_start_of) :=
  fn_ok (N := ["form"]) (m := false) (b := b_start_of) xm F sc_start_of fun cdv A outer s H E W hr tk =>
    ss_one (ss_ret (se_bin opr_mul (ok_mul (m := false)) (se_tup (sa_cons (se_tup (sa_cons (se_int) (sa_cons (se_int) (sa_nil)))) (sa_nil))) (se_callB call_len ok_len (sa_cons (se_var (pv 0)) (sa_nil)) rfl T.n_len bt_len)))
abbrev s_plus : Stmt := top 16
theorem sc_plus : FnScope ["pair", "side"] ["pair", "side"] (defScope s_plus) := ⟨rfl, rfl, rfl, by decide +kernel, rfl, by decide +kernel, by decide +kernel⟩
theorem ok_plus {f : Addr} {fd : FuncData} (F : Fun K "plus" "plus" s_plus f fd) (T : TX mg) : FnOk P w K mg base (L2.CX P w) 1 f fd ["pair", "side"] (spOf ⟨P, w, K⟩ xm 2 f_plus) :=
  fn_ok (N := ["pair", "side"]) (m := false) (b := b_plus) xm F sc_plus fun cdv A outer s H E W hr tk =>
    ss_one (ss_ret (se_if (st_cmp (opr_eq hr) ok_eq (se_var (pv 1)) (se_int)) (se_tup (sa_cons (se_bin opr_add (ok_add (m := false)) (se_ix ixr ok_ix (se_var (pv 0)) (se_int)) (se_int)) (sa_cons (se_ix ixr ok_ix (se_var (pv 0)) (se_int)) (sa_nil)))) (se_tup (sa_cons (se_ix ixr ok_ix (se_var (pv 0)) (se_int)) (sa_cons (se_bin opr_add (ok_add (m := false)) (se_ix ixr ok_ix (se_var (pv 0)) (se_int)) (se_int)) (sa_nil))))))
abbrev s_settled : Stmt := top 18
theorem sc_settled : FnScope ["form", "now", "result", "level", "pair", "spare"] ["form", "now"] (defScope s_settled) := ⟨rfl, rfl, rfl, by decide +kernel, rfl, by decide +kernel, by decide +kernel⟩
theorem ok_settled {f : Addr} {fd : FuncData} (F : Fun K "settled" "settled" s_settled f fd) (T : TX mg) : FnOk P w K mg base (L2.CX P w) 1 f fd ["form", "now"] (spOf ⟨P, w, K⟩ xm 2 f_settled) :=
  fn_ok (N := ["form", "now", "result", "level", "pair", "spare"]) (m := false) (b := b_settled) xm F sc_settled fun cdv A outer s H E W hr tk =>
    ss_cons (ss_set (i := 2) sc_settled.nd rfl (Or.inl rfl) (se_lst (m := true) (sa_nil)))
    (ss_cons (ss_for (passes_of rfl) rfl (si_zip (sa_cons (se_var (pv 0)) (sa_cons (se_var (pv 1)) (sa_nil))) rfl T.n_zip) (sg_tup (n := 2) (sgs_cons (pg_name (i := 3) sc_settled.nd rfl (Or.inl rfl)) (sgs_cons (pg_name (i := 4) sc_settled.nd rfl (Or.inl rfl)) (sgs_nil))) rfl rfl) (ss_cons (ss_set (i := 5) sc_settled.nd rfl (Or.inl rfl) (se_if (st_cmp opr_is ok_is (se_ix ixr ok_ix (se_var (pv 3)) (se_int)) (se_non)) (se_bin opr_add (ok_add (m := false)) (se_bin op_sub ok_sub (se_callB (callr_min rfl hr) ok_min (sa_cons (se_var (pv 4)) (sa_nil)) rfl T.n_min bt_min) (se_ix ixr ok_ix (se_var (pv 3)) (se_int))) (se_int)) (se_int)))
    (ss_one (ss_expr (se_append (se_var (pv 2)) (sa_cons (se_if (st_cmp op_gt ok_cmpI (se_var (pv 5)) (se_int)) (se_tup (sa_cons (se_bin op_sub ok_sub (se_ix ixr ok_ix (se_var (pv 4)) (se_int)) (se_var (pv 5))) (sa_cons (se_bin op_sub ok_sub (se_ix ixr ok_ix (se_var (pv 4)) (se_int)) (se_var (pv 5))) (sa_nil)))) (se_var (pv 4))) (sa_nil)))))))
    (ss_one (ss_ret (se_callTy call_tuple_of ok_tuple (sa_cons (se_var (pv 2)) (sa_nil)) rfl T.n_tuple bt_tuple))))
abbrev s_row_to : Stmt := top 20
theorem sc_row_to : FnScope ["sources", "key", "row", "side"] ["sources", "key"] (defScope s_row_to) := ⟨rfl, rfl, rfl, by decide +kernel, rfl, by decide +kernel, by decide +kernel⟩
theorem ok_row_to {f : Addr} {fd : FuncData} (F : Fun K "row_to" "row_to" s_row_to f fd) (T : TX mg) : FnOk P w K mg base (L2.CX P w) 1 f fd ["sources", "key"] (spOf ⟨P, w, K⟩ xm 2 f_row_to) :=
  fn_ok (N := ["sources", "key", "row", "side"]) (m := false) (b := b_row_to) xm F sc_row_to fun cdv A outer s H E W hr tk =>
    ss_cons (ss_set (i := 2) sc_row_to.nd rfl (Or.inl rfl) (se_lst (m := true) (sa_nil)))
    (ss_cons (ss_while 20000000 (passes_of rfl) (st_cmp opr_isN ok_isN (se_ix (ix_x (hu9 hr)) ok_getX (se_var (pv 0)) (se_var (pv 1))) (se_non)) (ss_cons (ss_asgT (sg_tup (n := 2) (sgs_cons (pg_name (i := 1) sc_row_to.nd rfl (Or.inl rfl)) (sgs_cons (pg_name (i := 3) sc_row_to.nd rfl (Or.inl rfl)) (sgs_nil))) rfl rfl) (se_ix (ix_x (hu9 hr)) ok_getX (se_var (pv 0)) (se_var (pv 1))))
    (ss_one (ss_expr (se_append (se_var (pv 2)) (sa_cons (se_var (pv 3)) (sa_nil)))))))
    (ss_one (ss_ret (se_rev (m := false) (se_var (pv 2))))))
abbrev s_lowest : Stmt := top 23
theorem sc_lowest : FnScope ["numerator", "denominator", "one", "two"] ["numerator", "denominator"] (defScope s_lowest) := ⟨rfl, rfl, rfl, by decide +kernel, rfl, by decide +kernel, by decide +kernel⟩
theorem ok_lowest {f : Addr} {fd : FuncData} (F : Fun K "lowest" "lowest" s_lowest f fd) (T : TX mg) : FnOk P w K mg base (L2.CX P w) 1 f fd ["numerator", "denominator"] (spOf ⟨P, w, K⟩ xm 2 f_lowest) :=
  fn_ok (N := ["numerator", "denominator", "one", "two"]) (m := false) (b := b_lowest) xm F sc_lowest fun cdv A outer s H E W hr tk =>
    ss_cons (ss_par2s (i := 2) (j := 3) rfl sc_lowest.nd (sa_cons (se_callB call_abs ok_abs (sa_cons (se_var (pv 0)) (sa_nil)) rfl T.n_abs bt_abs) (sa_cons (se_callB call_abs ok_abs (sa_cons (se_var (pv 1)) (sa_nil)) rfl T.n_abs bt_abs) (sa_nil))) (by decide))
    (ss_cons (ss_while 100000 (passes_of rfl) (st_cmp op_gt ok_cmpI (se_var (pv 3)) (se_int)) (ss_one (ss_par2s (i := 2) (j := 3) rfl sc_lowest.nd (sa_cons (se_var (pv 3)) (sa_cons (se_bin op_mod ok_mod (se_var (pv 2)) (se_var (pv 3))) (sa_nil))) (by decide))))
    (ss_cons (ss_set (i := 2) sc_lowest.nd rfl (Or.inl rfl) (se_if (st_cmp (opr_lt hr) ok_lt (se_var (pv 1)) (se_int)) (se_un un_neg ok_neg (se_var (pv 2))) (se_var (pv 2))))
    (ss_one (ss_ret (se_tup (sa_cons (se_bin opr_fdiv ok_fdiv (se_var (pv 0)) (se_var (pv 2))) (sa_cons (se_bin opr_fdiv ok_fdiv (se_var (pv 1)) (se_var (pv 2))) (sa_nil))))))))
abbrev s_power : Stmt := top 26
theorem sc_power : FnScope ["base", "many", "result", "step"] ["base", "many"] (defScope s_power) := ⟨rfl, rfl, rfl, by decide +kernel, rfl, by decide +kernel, by decide +kernel⟩
theorem ok_power {f : Addr} {fd : FuncData} (F : Fun K "power" "power" s_power f fd) (T : TX mg) : FnOk P w K mg base (L2.CX P w) 1 f fd ["base", "many"] (spOf ⟨P, w, K⟩ xm 2 f_power) :=
  fn_ok (N := ["base", "many", "result", "step"]) (m := false) (b := b_power) xm F sc_power fun cdv A outer s H E W hr tk =>
    ss_cons (ss_set (i := 2) sc_power.nd rfl (Or.inl rfl) (se_int))
    (ss_cons (ss_for (passes_of rfl) rfl (si_range1 (sa_cons (se_var (pv 1)) (sa_nil)) rfl T.n_range) (sg_name (pg_name (i := 3) sc_power.nd rfl (Or.inl rfl))) (ss_one (ss_aug (i := 2) sc_power.nd rfl (Or.inl rfl) opr_imul ok_mulI (se_var (pv 0)))))
    (ss_one (ss_ret (se_var (pv 2)))))
abbrev s_least_units : Stmt := top 34
theorem sc_least_units : FnScope ["level", "target", "lead", "cap"] ["level"] (defScope s_least_units) := ⟨rfl, rfl, rfl, by decide +kernel, rfl, by decide +kernel, by decide +kernel⟩
theorem ok_least_units {f : Addr} {fd : FuncData} (F : Fun K "least_units" "least_units" s_least_units f fd) (T : TX mg) : FnOk P w K mg base (L2.CX P w) 1 f fd ["level"] (spOf ⟨P, w, K⟩ xm 1 f_least_units) :=
  fn_ok (N := ["level", "target", "lead", "cap"]) (m := false) (b := b_least_units) xm F sc_least_units fun cdv A outer s H E W hr tk =>
    ss_cons (ss_asgT (sg_tup (n := 3) (sgs_cons (pg_name (i := 1) sc_least_units.nd rfl (Or.inl rfl)) (sgs_cons (pg_name (i := 2) sc_least_units.nd rfl (Or.inl rfl)) (sgs_cons (pg_name (i := 3) sc_least_units.nd rfl (Or.inl rfl)) (sgs_nil)))) rfl rfl) (se_var (pv 0)))
    (ss_one (ss_ret (se_if (st_cmp opr_is ok_is (se_var (pv 3)) (se_non)) (se_callB (call_max2 rfl) ok_max2 (sa_cons (se_var (pv 1)) (sa_cons (se_var (pv 2)) (sa_nil))) rfl T.n_max bt_max) (se_callB (call_min2 rfl) ok_min2 (sa_cons (se_callB (call_max2 rfl) ok_max2 (sa_cons (se_var (pv 1)) (sa_cons (se_var (pv 2)) (sa_nil))) rfl T.n_max bt_max) (sa_cons (se_var (pv 3)) (sa_nil))) rfl T.n_min bt_min))))
abbrev s__law_draw : Stmt := top 43
theorem sc__law_draw : FnScope ["_law_script", "_law_town", "_law_many", "_law_one", "_law_at", "_law_mixed"] ["_law_script", "_law_town", "_law_many"] (defScope s__law_draw) := ⟨rfl, rfl, rfl, by decide +kernel, rfl, by decide +kernel, by decide +kernel⟩
theorem ok__law_draw {f : Addr} {fd : FuncData} (F : Fun K "_law_draw" "_law_draw" s__law_draw f fd) (T : TX mg) : FnOk P w K mg base (L2.CX P w) 1 f fd ["_law_script", "_law_town", "_law_many"] (spOf ⟨P, w, K⟩ xm 3 f__law_draw) :=
  fn_ok (N := ["_law_script", "_law_town", "_law_many", "_law_one", "_law_at", "_law_mixed"]) (m := false) (b := b__law_draw) xm F sc__law_draw fun cdv A outer s H E W hr tk =>
    ss_cons (ss_if (st_cmp op_gt ok_cmpI (se_ix ixr ok_ix (se_var (pv 1)) (se_int)) (se_int)) (ss_cons (ss_set (i := 3) sc__law_draw.nd rfl (Or.inl rfl) (se_bin op_mod ok_mod (se_ix ixr ok_ix (se_var (pv 1)) (se_int)) (se_var (pv 2))))
    (ss_cons (ss_setIx (se_bin opr_fdiv ok_fdiv (se_ix ixr ok_ix (se_var (pv 1)) (se_int)) (se_var (pv 2))) (se_var (pv 1)) (se_int))
    (ss_one (ss_ret (se_var (pv 3)))))) (ss_nil))
    (ss_cons (ss_set (i := 4) sc__law_draw.nd rfl (Or.inl rfl) (se_ix ixr ok_ix (se_var (pv 1)) (se_int)))
    (ss_cons (ss_augIx iop_add ok_addI (se_var (pv 1)) (se_int) (se_int))
    (ss_cons (ss_if (st_cmp (opr_eq hr) ok_eq (se_var (pv 0)) (se_lst (m := false) (sa_nil))) (ss_one (ss_ret (se_bin op_mod ok_mod (se_var (pv 4)) (se_var (pv 2))))) (ss_nil))
    (ss_cons (ss_if (st_bool (sw_and (st_cmp (opr_lt hr) ok_lt (se_var (pv 4)) (se_callB call_len ok_len (sa_cons (se_var (pv 0)) (sa_nil)) rfl T.n_len bt_len)) (sw_and1 (st_cmp op_ge ok_cmpI (se_ix ixr ok_ix (se_var (pv 0)) (se_var (pv 4))) (se_bin op_pow ok_pow (se_int) (se_int)))))) (ss_cons (ss_setIx (se_bin op_mod ok_mod (se_bin opr_fdiv ok_fdiv (se_ix ixr ok_ix (se_var (pv 0)) (se_var (pv 4))) (se_var (pv 2))) (se_bin opr_mul (ok_mul (m := false)) (se_bin op_pow ok_pow (se_int) (se_int)) (se_bin op_pow ok_pow (se_int) (se_int)))) (se_var (pv 1)) (se_int))
    (ss_one (ss_ret (se_bin op_mod ok_mod (se_ix ixr ok_ix (se_var (pv 0)) (se_var (pv 4))) (se_var (pv 2)))))) (ss_nil))
    (ss_cons (ss_set (i := 5) sc__law_draw.nd rfl (Or.inl rfl) (se_bin op_mod ok_mod (se_bin opr_add (ok_add (m := false)) (se_bin opr_add (ok_add (m := false)) (se_bin opr_mul (ok_mul (m := false)) (se_ix ixr ok_ix (se_var (pv 0)) (se_bin op_mod ok_mod (se_var (pv 4)) (se_callB call_len ok_len (sa_cons (se_var (pv 0)) (sa_nil)) rfl T.n_len bt_len))) (se_int)) (se_bin opr_mul (ok_mul (m := false)) (se_int) (se_var (pv 4)))) (se_int)) (se_int)))
    (ss_one (ss_ret (se_bin op_mod ok_mod (se_bin op_mod ok_mod (se_bin op_mod ok_mod (se_bin op_pow ok_pow (se_var (pv 5)) (se_int)) (se_int)) (se_int)) (se_var (pv 2))))))))))
abbrev s_is_level : Stmt := top 10
theorem sc_is_level : FnScope ["value"] ["value"] (defScope s_is_level) := ⟨rfl, rfl, rfl, by decide +kernel, rfl, by decide +kernel, by decide +kernel⟩
theorem ok_is_level {f : Addr} {fd : FuncData} (F : Fun K "is_level" "is_level" s_is_level f fd) (T : TX mg) {a_is_count : Addr} {fd_is_count : FuncData} (D_is_count : Df K mg "is_count" s_is_count ["value", "least", "most"] a_is_count fd_is_count) (G_is_count : FnOk P w K mg base (L2.CX P w) 1 a_is_count fd_is_count ["value", "least", "most"] (spOf ⟨P, w, K⟩ xm 3 f_is_count)) : FnOk P w K mg base (L2.CX P w) 2 f fd ["value"] (spOf ⟨P, w, K⟩ xm 1 f_is_level) :=
  fn_ok (N := ["value"]) (m := false) (b := b_is_level) xm F sc_is_level fun cdv A outer s H E W hr tk =>
    ss_cons (ss_if (st_bool (sw_or (st_not (st_val (se_callB callr_isa ok_isa (sa_cons (se_var (pv 0)) (sa_cons (se_ty T.n_tuple bt_tuple) (sa_nil))) rfl T.n_isinstance bt_isinstance))) (sw_or (st_cmp (opr_ne hr) ok_ne (se_callB call_len ok_len (sa_cons (se_var (pv 0)) (sa_nil)) rfl T.n_len bt_len) (se_int)) (sw_or1 (st_not (st_val (se_call (fn_pure G_is_count) rfl tk (hr.mono (by decide)) D_is_count.m D_is_count.F.kp D_is_count.b (sa_cons (se_ix ixr ok_ix (se_var (pv 0)) (se_int)) (sa_cons (se_int) (sa_cons (se_globI T.c_TARGET) (sa_nil)))) (len_cons (len_cons (len_cons len_nil)))))))))) (ss_one (ss_ret (se_bl))) (ss_nil))
    (ss_one (ss_ret (se_and (se_call (fn_pure G_is_count) rfl tk (hr.mono (by decide)) D_is_count.m D_is_count.F.kp D_is_count.b (sa_cons (se_ix ixr ok_ix (se_var (pv 0)) (se_int)) (sa_cons (se_int) (sa_cons (se_globI T.c_LEAD) (sa_nil)))) (len_cons (len_cons (len_cons len_nil)))) (se_one (se_or (se_cmp opr_is ok_is (se_ix ixr ok_ix (se_var (pv 0)) (se_int)) (se_non)) (se_one (se_call (fn_pure G_is_count) rfl tk (hr.mono (by decide)) D_is_count.m D_is_count.F.kp D_is_count.b (sa_cons (se_ix ixr ok_ix (se_var (pv 0)) (se_int)) (sa_cons (se_ix ixr ok_ix (se_var (pv 0)) (se_int)) (sa_cons (se_globI T.c_CAP) (sa_nil)))) (len_cons (len_cons (len_cons len_nil))))))))))
abbrev s_after : Stmt := top 17
theorem sc_after : FnScope ["form", "score", "side", "pairs", "at", "level", "won"] ["form", "score", "side"] (defScope s_after) := ⟨rfl, rfl, rfl, by decide +kernel, rfl, by decide +kernel, by decide +kernel⟩
theorem ok_after {f : Addr} {fd : FuncData} (F : Fun K "after" "after" s_after f fd) (T : TX mg) {a_round_winner : Addr} {fd_round_winner : FuncData} (D_round_winner : Df K mg "round_winner" s_round_winner ["level", "pair"] a_round_winner fd_round_winner) (G_round_winner : FnOk P w K mg base (L2.CX P w) 1 a_round_winner fd_round_winner ["level", "pair"] (spOf ⟨P, w, K⟩ xm 2 f_round_winner)) {a_plus : Addr} {fd_plus : FuncData} (D_plus : Df K mg "plus" s_plus ["pair", "side"] a_plus fd_plus) (G_plus : FnOk P w K mg base (L2.CX P w) 1 a_plus fd_plus ["pair", "side"] (spOf ⟨P, w, K⟩ xm 2 f_plus)) : FnOk P w K mg base (L2.CX P w) 2 f fd ["form", "score", "side"] (spOf ⟨P, w, K⟩ xm 3 f_after) :=
  fn_ok (N := ["form", "score", "side", "pairs", "at", "level", "won"]) (m := false) (b := b_after) xm F sc_after fun cdv A outer s H E W hr tk =>
    ss_cons (ss_set (i := 3) sc_after.nd rfl (Or.inl rfl) (se_callTy call_list_of (ok_list (m := true)) (sa_cons (se_var (pv 1)) (sa_nil)) rfl T.n_list bt_list))
    (ss_cons (ss_for (passes_of rfl) rfl (si_enum (sa_cons (se_var (pv 0)) (sa_nil)) rfl T.n_enumerate) (sg_tup (n := 2) (sgs_cons (pg_name (i := 4) sc_after.nd rfl (Or.inl rfl)) (sgs_cons (pg_name (i := 5) sc_after.nd rfl (Or.inl rfl)) (sgs_nil))) rfl rfl) (ss_cons (ss_setIx (se_call (fn_pure G_plus) rfl tk (hr.mono (by decide)) D_plus.m D_plus.F.kp D_plus.b (sa_cons (se_ix ixr ok_ix (se_var (pv 3)) (se_var (pv 4))) (sa_cons (se_var (pv 2)) (sa_nil))) (len_cons (len_cons len_nil))) (se_var (pv 3)) (se_var (pv 4)))
    (ss_cons (ss_set (i := 6) sc_after.nd rfl (Or.inl rfl) (se_call (fn_pure G_round_winner) rfl tk (hr.mono (by decide)) D_round_winner.m D_round_winner.F.kp D_round_winner.b (sa_cons (se_var (pv 5)) (sa_cons (se_ix ixr ok_ix (se_var (pv 3)) (se_var (pv 4))) (sa_nil))) (len_cons (len_cons len_nil))))
    (ss_cons (ss_if (st_cmp opr_is ok_is (se_var (pv 6)) (se_non)) (ss_one (ss_break)) (ss_nil))
    (ss_cons (ss_if (st_cmp (opr_eq hr) ok_eq (se_bin opr_add (ok_add (m := false)) (se_var (pv 4)) (se_int)) (se_callB call_len ok_len (sa_cons (se_var (pv 0)) (sa_nil)) rfl T.n_len bt_len)) (ss_one (ss_ret (se_tup (sa_cons (se_callTy call_tuple_of ok_tuple (sa_cons (se_var (pv 3)) (sa_nil)) rfl T.n_tuple bt_tuple) (sa_cons (se_var (pv 6)) (sa_nil)))))) (ss_nil))
    (ss_one (ss_setIx (se_tup (sa_cons (se_int) (sa_cons (se_int) (sa_nil)))) (se_var (pv 3)) (se_var (pv 4)))))))))
    (ss_one (ss_ret (se_tup (sa_cons (se_callTy call_tuple_of ok_tuple (sa_cons (se_var (pv 3)) (sa_nil)) rfl T.n_tuple bt_tuple) (sa_cons (se_non) (sa_nil)))))))
abbrev s_times : Stmt := top 24
theorem sc_times : FnScope ["one", "two"] ["one", "two"] (defScope s_times) := ⟨rfl, rfl, rfl, by decide +kernel, rfl, by decide +kernel, by decide +kernel⟩
theorem ok_times {f : Addr} {fd : FuncData} (F : Fun K "times" "times" s_times f fd) (T : TX mg) {a_lowest : Addr} {fd_lowest : FuncData} (D_lowest : Df K mg "lowest" s_lowest ["numerator", "denominator"] a_lowest fd_lowest) (G_lowest : FnOk P w K mg base (L2.CX P w) 1 a_lowest fd_lowest ["numerator", "denominator"] (spOf ⟨P, w, K⟩ xm 2 f_lowest)) : FnOk P w K mg base (L2.CX P w) 2 f fd ["one", "two"] (spOf ⟨P, w, K⟩ xm 2 f_times) :=
  fn_ok (N := ["one", "two"]) (m := false) (b := b_times) xm F sc_times fun cdv A outer s H E W hr tk =>
    ss_one (ss_ret (se_call (fn_pure G_lowest) rfl tk (hr.mono (by decide)) D_lowest.m D_lowest.F.kp D_lowest.b (sa_cons (se_bin opr_mul (ok_mul (m := false)) (se_ix ixr ok_ix (se_var (pv 0)) (se_int)) (se_ix ixr ok_ix (se_var (pv 1)) (se_int))) (sa_cons (se_bin opr_mul (ok_mul (m := false)) (se_ix ixr ok_ix (se_var (pv 0)) (se_int)) (se_ix ixr ok_ix (se_var (pv 1)) (se_int))) (sa_nil))) (len_cons (len_cons len_nil))))
abbrev s_added : Stmt := top 25
theorem sc_added : FnScope ["one", "two"] ["one", "two"] (defScope s_added) := ⟨rfl, rfl, rfl, by decide +kernel, rfl, by decide +kernel, by decide +kernel⟩
theorem ok_added {f : Addr} {fd : FuncData} (F : Fun K "added" "added" s_added f fd) (T : TX mg) {a_lowest : Addr} {fd_lowest : FuncData} (D_lowest : Df K mg "lowest" s_lowest ["numerator", "denominator"] a_lowest fd_lowest) (G_lowest : FnOk P w K mg base (L2.CX P w) 1 a_lowest fd_lowest ["numerator", "denominator"] (spOf ⟨P, w, K⟩ xm 2 f_lowest)) : FnOk P w K mg base (L2.CX P w) 2 f fd ["one", "two"] (spOf ⟨P, w, K⟩ xm 2 f_added) :=
  fn_ok (N := ["one", "two"]) (m := false) (b := b_added) xm F sc_added fun cdv A outer s H E W hr tk =>
    ss_one (ss_ret (se_call (fn_pure G_lowest) rfl tk (hr.mono (by decide)) D_lowest.m D_lowest.F.kp D_lowest.b (sa_cons (se_bin opr_add (ok_add (m := false)) (se_bin opr_mul (ok_mul (m := false)) (se_ix ixr ok_ix (se_var (pv 0)) (se_int)) (se_ix ixr ok_ix (se_var (pv 1)) (se_int))) (se_bin opr_mul (ok_mul (m := false)) (se_ix ixr ok_ix (se_var (pv 1)) (se_int)) (se_ix ixr ok_ix (se_var (pv 0)) (se_int)))) (sa_cons (se_bin opr_mul (ok_mul (m := false)) (se_ix ixr ok_ix (se_var (pv 0)) (se_int)) (se_ix ixr ok_ix (se_var (pv 1)) (se_int))) (sa_nil))) (len_cons (len_cons len_nil))))
abbrev s_ends_of : Stmt := top 28
theorem sc_ends_of : FnScope ["level", "ways", "ends", "later", "pair", "side", "reached", "is_end", "book"] ["level"] (defScope s_ends_of) := ⟨rfl, rfl, rfl, by decide +kernel, rfl, by decide +kernel, by decide +kernel⟩
theorem ok_ends_of {f : Addr} {fd : FuncData} (F : Fun K "ends_of" "ends_of" s_ends_of f fd) (T : TX mg) {a_round_winner : Addr} {fd_round_winner : FuncData} (D_round_winner : Df K mg "round_winner" s_round_winner ["level", "pair"] a_round_winner fd_round_winner) (G_round_winner : FnOk P w K mg base (L2.CX P w) 1 a_round_winner fd_round_winner ["level", "pair"] (spOf ⟨P, w, K⟩ xm 2 f_round_winner)) {a_plus : Addr} {fd_plus : FuncData} (D_plus : Df K mg "plus" s_plus ["pair", "side"] a_plus fd_plus) (G_plus : FnOk P w K mg base (L2.CX P w) 1 a_plus fd_plus ["pair", "side"] (spOf ⟨P, w, K⟩ xm 2 f_plus)) : FnOk P w K mg base (L2.CX P w) 2 f fd ["level"] (spOf ⟨P, w, K⟩ xm 1 f_ends_of) :=
  fn_ok (N := ["level", "ways", "ends", "later", "pair", "side", "reached", "is_end", "book"]) (m := true) (b := b_ends_of) xm F sc_ends_of fun cdv A outer s H E W hr tk =>
    ss_cons (ss_par2s (i := 1) (j := 2) rfl sc_ends_of.nd (sa_cons (se_dct1 (hu9 hr) (se_tup (sa_cons (se_int) (sa_cons (se_int) (sa_nil)))) (se_int)) (sa_cons (se_dct0) (sa_nil))) (by decide))
    (ss_cons (ss_while 100000 (passes_of rfl) (st_neE (hu0 hr) (se_var (pv 1))) (ss_cons (ss_set (i := 3) sc_ends_of.nd rfl (Or.inl rfl) (se_dct0))
    (ss_cons (ss_lock (ss_for (passes_of rfl) rfl (si_keysD (se_var (pv 1))) (sg_name (pg_name (i := 4) sc_ends_of.nd rfl (Or.inl rfl))) (ss_one (ss_for (passes_of rfl) rfl (si_seq (se_tup (sa_cons (se_int) (sa_cons (se_int) (sa_nil))))) (sg_name (pg_name (i := 5) sc_ends_of.nd rfl (Or.inl rfl))) (ss_cons (ss_set (i := 6) sc_ends_of.nd rfl (Or.inl rfl) (se_call (fn_pure G_plus) rfl tk (hr.mono (by decide)) D_plus.m D_plus.F.kp D_plus.b (sa_cons (se_var (pv 4)) (sa_cons (se_var (pv 5)) (sa_nil))) (len_cons (len_cons len_nil))))
    (ss_cons (ss_set (i := 7) sc_ends_of.nd rfl (Or.inl rfl) (se_or (se_cmp opr_isN ok_isN (se_call (fn_pure G_round_winner) rfl tk (hr.mono (by decide)) D_round_winner.m D_round_winner.F.kp D_round_winner.b (sa_cons (se_var (pv 0)) (sa_cons (se_var (pv 6)) (sa_nil))) (len_cons (len_cons len_nil))) (se_non)) (se_one (se_and (se_cmp opr_is ok_is (se_ix ixr ok_ix (se_var (pv 0)) (se_int)) (se_non)) (se_one (se_cmp op_ge ok_cmpI (se_callB (callr_min rfl hr) ok_min (sa_cons (se_var (pv 6)) (sa_nil)) rfl T.n_min bt_min) (se_ix ixr ok_ix (se_var (pv 0)) (se_int))))))))
    (ss_cons (ss_set (i := 8) sc_ends_of.nd rfl (Or.inl rfl) (se_if (st_val (se_var (pv 7))) (se_var (pv 2)) (se_var (pv 3))))
    (ss_one (ss_setX (hu9 hr) (se_bin opr_add (ok_add (m := false)) (se_getX (hu9 hr) (se_var (pv 8)) (se_var (pv 6)) (se_int) ⟨rfl, rfl, rfl, rfl⟩) (se_ix (ix_x (hu9 hr)) ok_getX (se_var (pv 1)) (se_var (pv 4)))) (se_var (pv 8)) (se_var (pv 6)))))))))))
    (ss_one (ss_set (i := 1) sc_ends_of.nd rfl (Or.inl rfl) (se_var (pv 3)))))))
    (ss_one (ss_ret (se_var (pv 2)))))
abbrev s_need_chance : Stmt := top 30
theorem sc_need_chance : FnScope ["value"] ["value"] (defScope s_need_chance) := ⟨rfl, rfl, rfl, by decide +kernel, rfl, by decide +kernel, by decide +kernel⟩
theorem ok_need_chance {f : Addr} {fd : FuncData} (F : Fun K "need_chance" "need_chance" s_need_chance f fd) (T : TX mg) {a_is_count : Addr} {fd_is_count : FuncData} (D_is_count : Df K mg "is_count" s_is_count ["value", "least", "most"] a_is_count fd_is_count) (G_is_count : FnOk P w K mg base (L2.CX P w) 1 a_is_count fd_is_count ["value", "least", "most"] (spOf ⟨P, w, K⟩ xm 3 f_is_count)) : FnOk P w K mg base (L2.CX P w) 2 f fd ["value"] (spOf ⟨P, w, K⟩ xm 1 f_need_chance) :=
  fn_ok (N := ["value"]) (m := false) (b := b_need_chance) xm F sc_need_chance fun cdv A outer s H E W hr tk =>
    ss_cons (ss_if (st_bool (sw_or (st_not (st_val (se_callB callr_isa ok_isa (sa_cons (se_var (pv 0)) (sa_cons (se_ty T.n_tuple bt_tuple) (sa_nil))) rfl T.n_isinstance bt_isinstance))) (sw_or (st_cmp (opr_ne hr) ok_ne (se_callB call_len ok_len (sa_cons (se_var (pv 0)) (sa_nil)) rfl T.n_len bt_len) (se_int)) (sw_or1 (st_not (st_val (se_call (fn_pure G_is_count) rfl tk (hr.mono (by decide)) D_is_count.m D_is_count.F.kp D_is_count.b (sa_cons (se_ix ixr ok_ix (se_var (pv 0)) (se_int)) (sa_cons (se_int) (sa_cons (se_int) (sa_nil)))) (len_cons (len_cons (len_cons len_nil)))))))))) (ss_one (ss_bad)) (ss_nil))
    (ss_one (ss_if (st_not (st_val (se_call (fn_pure G_is_count) rfl tk (hr.mono (by decide)) D_is_count.m D_is_count.F.kp D_is_count.b (sa_cons (se_ix ixr ok_ix (se_var (pv 0)) (se_int)) (sa_cons (se_int) (sa_cons (se_ix ixr ok_ix (se_var (pv 0)) (se_int)) (sa_nil)))) (len_cons (len_cons (len_cons len_nil)))))) (ss_one (ss_bad)) (ss_nil)))
abbrev s_rounds : Stmt := top 36
theorem sc_rounds : FnScope ["level", "most", "paths", "left", "found", "number", "pair", "side", "reached"] ["level"] (defScope s_rounds) := ⟨rfl, rfl, rfl, by decide +kernel, rfl, by decide +kernel, by decide +kernel⟩
theorem ok_rounds {f : Addr} {fd : FuncData} (F : Fun K "rounds" "rounds" s_rounds f fd) (T : TX mg) {a_round_winner : Addr} {fd_round_winner : FuncData} (D_round_winner : Df K mg "round_winner" s_round_winner ["level", "pair"] a_round_winner fd_round_winner) (G_round_winner : FnOk P w K mg base (L2.CX P w) 1 a_round_winner fd_round_winner ["level", "pair"] (spOf ⟨P, w, K⟩ xm 2 f_round_winner)) {a_plus : Addr} {fd_plus : FuncData} (D_plus : Df K mg "plus" s_plus ["pair", "side"] a_plus fd_plus) (G_plus : FnOk P w K mg base (L2.CX P w) 1 a_plus fd_plus ["pair", "side"] (spOf ⟨P, w, K⟩ xm 2 f_plus)) : FnOk P w K mg base (L2.CX P w) 2 f fd ["level"] (spOf ⟨P, w, K⟩ xm 1 f_rounds) :=
  fn_ok (N := ["level", "most", "paths", "left", "found", "number", "pair", "side", "reached"]) (m := false) (b := b_rounds) xm F sc_rounds fun cdv A outer s H E W hr tk =>
    ss_cons (ss_set (i := 1) sc_rounds.nd rfl (Or.inl rfl) (se_if (st_cmp opr_is ok_is (se_ix ixr ok_ix (se_var (pv 0)) (se_int)) (se_non)) (se_bin opr_add (ok_add (m := false)) (se_ix ixr ok_ix (se_var (pv 0)) (se_int)) (se_ix ixr ok_ix (se_var (pv 0)) (se_int))) (se_ix ixr ok_ix (se_var (pv 0)) (se_int))))
    (ss_cons (ss_par2s (i := 2) (j := 3) rfl sc_rounds.nd (sa_cons (se_dct1 (hu9 hr) (se_tup (sa_cons (se_int) (sa_cons (se_int) (sa_nil)))) (se_lst (m := false) (sa_nil))) (sa_cons (se_lst (m := true) (sa_cons (se_tup (sa_cons (se_int) (sa_cons (se_int) (sa_nil)))) (sa_nil))) (sa_nil))) (by decide))
    (ss_cons (ss_set (i := 4) sc_rounds.nd rfl (Or.inl rfl) (se_lst (m := true) (sa_nil)))
    (ss_cons (ss_for (passes_of rfl) rfl (si_range1 (sa_cons (se_bin opr_mul (ok_mul (m := false)) (se_bin opr_add (ok_add (m := false)) (se_var (pv 1)) (se_int)) (se_bin opr_add (ok_add (m := false)) (se_var (pv 1)) (se_int))) (sa_nil)) rfl T.n_range) (sg_name (pg_name (i := 5) sc_rounds.nd rfl (Or.inl rfl))) (ss_cons (ss_if (st_cmp (opr_eq hr) ok_eq (se_var (pv 5)) (se_callB call_len ok_len (sa_cons (se_var (pv 3)) (sa_nil)) rfl T.n_len bt_len)) (ss_one (ss_break)) (ss_nil))
    (ss_cons (ss_set (i := 6) sc_rounds.nd rfl (Or.inl rfl) (se_ix ixr ok_ix (se_var (pv 3)) (se_var (pv 5))))
    (ss_one (ss_for (passes_of rfl) rfl (si_seq (se_tup (sa_cons (se_int) (sa_cons (se_int) (sa_nil))))) (sg_name (pg_name (i := 7) sc_rounds.nd rfl (Or.inl rfl))) (ss_cons (ss_set (i := 8) sc_rounds.nd rfl (Or.inl rfl) (se_call (fn_pure G_plus) rfl tk (hr.mono (by decide)) D_plus.m D_plus.F.kp D_plus.b (sa_cons (se_var (pv 6)) (sa_cons (se_var (pv 7)) (sa_nil))) (len_cons (len_cons len_nil))))
    (ss_one (ss_if (st_bool (sw_and (st_cmp op_le ok_cmpI (se_callB (callr_max rfl hr) ok_max (sa_cons (se_var (pv 8)) (sa_nil)) rfl T.n_max bt_max) (se_var (pv 1))) (sw_and1 (st_cmp (op_ninX (hu9 hr)) ok_ninX (se_var (pv 8)) (se_var (pv 2)))))) (ss_cons (ss_setX (hu9 hr) (se_bin opr_add (ok_add (m := false)) (se_ix (ix_x (hu9 hr)) ok_getX (se_var (pv 2)) (se_var (pv 6))) (se_lst (m := false) (sa_cons (se_var (pv 7)) (sa_nil)))) (se_var (pv 2)) (se_var (pv 8)))
    (ss_one (ss_if (st_cmp opr_is ok_is (se_call (fn_pure G_round_winner) rfl tk (hr.mono (by decide)) D_round_winner.m D_round_winner.F.kp D_round_winner.b (sa_cons (se_var (pv 0)) (sa_cons (se_var (pv 8)) (sa_nil))) (len_cons (len_cons len_nil))) (se_non)) (ss_one (ss_expr (se_append (se_var (pv 3)) (sa_cons (se_var (pv 8)) (sa_nil))))) (ss_one (ss_expr (se_append (se_var (pv 4)) (sa_cons (se_ix (ix_x (hu9 hr)) ok_getX (se_var (pv 2)) (se_var (pv 8))) (sa_nil)))))))) (ss_nil)))))))))
    (ss_one (ss_ret (se_var (pv 4)))))))
abbrev s__law_pick : Stmt := top 44
theorem sc__law_pick : FnScope ["_law_script", "_law_town", "_law_some"] ["_law_script", "_law_town", "_law_some"] (defScope s__law_pick) := ⟨rfl, rfl, rfl, by decide +kernel, rfl, by decide +kernel, by decide +kernel⟩
theorem ok__law_pick {f : Addr} {fd : FuncData} (F : Fun K "_law_pick" "_law_pick" s__law_pick f fd) (T : TX mg) {a__law_draw : Addr} {fd__law_draw : FuncData} (D__law_draw : Df K mg "_law_draw" s__law_draw ["_law_script", "_law_town", "_law_many"] a__law_draw fd__law_draw) (G__law_draw : FnOk P w K mg base (L2.CX P w) 1 a__law_draw fd__law_draw ["_law_script", "_law_town", "_law_many"] (spOf ⟨P, w, K⟩ xm 3 f__law_draw)) : FnOk P w K mg base (L2.CX P w) 2 f fd ["_law_script", "_law_town", "_law_some"] (spOf ⟨P, w, K⟩ xm 3 f__law_pick) :=
  fn_ok (N := ["_law_script", "_law_town", "_law_some"]) (m := false) (b := b__law_pick) xm F sc__law_pick fun cdv A outer s H E W hr tk =>
    ss_one (ss_ret (se_ix ixr ok_ix (se_var (pv 2)) (se_call G__law_draw rfl tk (hr.mono (by decide)) D__law_draw.m D__law_draw.F.kp D__law_draw.b (sa_cons (se_var (pv 0)) (sa_cons (se_var (pv 1)) (sa_cons (se_callB call_len ok_len (sa_cons (se_var (pv 2)) (sa_nil)) rfl T.n_len bt_len) (sa_nil)))) (len_cons (len_cons (len_cons len_nil))))))
abbrev s_is_form : Stmt := top 11
theorem sc_is_form : FnScope ["value", "level"] ["value"] (defScope s_is_form) := ⟨rfl, rfl, rfl, by decide +kernel, rfl, by decide +kernel, by decide +kernel⟩
theorem ok_is_form {f : Addr} {fd : FuncData} (F : Fun K "is_form" "is_form" s_is_form f fd) (T : TX mg) {a_is_level : Addr} {fd_is_level : FuncData} (D_is_level : Df K mg "is_level" s_is_level ["value"] a_is_level fd_is_level) (G_is_level : FnOk P w K mg base (L2.CX P w) 2 a_is_level fd_is_level ["value"] (spOf ⟨P, w, K⟩ xm 1 f_is_level)) : FnOk P w K mg base (L2.CX P w) 3 f fd ["value"] (spOf ⟨P, w, K⟩ xm 1 f_is_form) :=
  fn_ok (N := ["value", "level"]) (m := false) (b := b_is_form) xm F sc_is_form fun cdv A outer s H E W hr tk =>
    ss_one (ss_ret (se_and (se_callB callr_isa ok_isa (sa_cons (se_var (pv 0)) (sa_cons (se_ty T.n_tuple bt_tuple) (sa_nil))) rfl T.n_isinstance bt_isinstance) (se_and (se_chain op_le op_le (se_int) (se_callB call_len ok_len (sa_cons (se_var (pv 0)) (sa_nil)) rfl T.n_len bt_len) (se_globI T.c_LEVELS)) (se_one (se_callB (cr_all rfl) ok_all (sa_cons (se_lc (m := false) (own := [("level", 1)]) rfl sc_is_form.nd (blkOk_by (N := ["value", "level"]) (sc := defScope s_is_form) (by decide +kernel)) (by decide) (si_seq (se_var (pv 0))) (fun _ _ _ _ _ => pg_name (i := 1) sc_is_form.nd rfl (Or.inl rfl)) tgk_name (fun _ _ _ _ _ => spt_nil) (fun _ _ _ _ _ => se_call (fn_pure G_is_level) rfl takes0 (hr.mono (by decide)) D_is_level.m D_is_level.F.kp D_is_level.b (sa_cons (se_var (pv 1)) (sa_nil)) (len_cons len_nil))) (sa_nil)) rfl T.n_all bt_all)))))
abbrev s_walk : Stmt := top 27
theorem sc_walk : FnScope ["chance", "lead", "ahead", "own", "rival", "up", "down", "wins", "whole", "won", "units"] ["chance", "lead", "ahead"] (defScope s_walk) := ⟨rfl, rfl, rfl, by decide +kernel, rfl, by decide +kernel, by decide +kernel⟩
theorem ok_walk {f : Addr} {fd : FuncData} (F : Fun K "walk" "walk" s_walk f fd) (T : TX mg) {a_lowest : Addr} {fd_lowest : FuncData} (D_lowest : Df K mg "lowest" s_lowest ["numerator", "denominator"] a_lowest fd_lowest) (G_lowest : FnOk P w K mg base (L2.CX P w) 1 a_lowest fd_lowest ["numerator", "denominator"] (spOf ⟨P, w, K⟩ xm 2 f_lowest)) {a_times : Addr} {fd_times : FuncData} (D_times : Df K mg "times" s_times ["one", "two"] a_times fd_times) (G_times : FnOk P w K mg base (L2.CX P w) 2 a_times fd_times ["one", "two"] (spOf ⟨P, w, K⟩ xm 2 f_times)) {a_added : Addr} {fd_added : FuncData} (D_added : Df K mg "added" s_added ["one", "two"] a_added fd_added) (G_added : FnOk P w K mg base (L2.CX P w) 2 a_added fd_added ["one", "two"] (spOf ⟨P, w, K⟩ xm 2 f_added)) {a_power : Addr} {fd_power : FuncData} (D_power : Df K mg "power" s_power ["base", "many"] a_power fd_power) (G_power : FnOk P w K mg base (L2.CX P w) 1 a_power fd_power ["base", "many"] (spOf ⟨P, w, K⟩ xm 2 f_power)) : FnOk P w K mg base (L2.CX P w) 3 f fd ["chance", "lead", "ahead"] (spOf ⟨P, w, K⟩ xm 3 f_walk) :=
  fn_ok (N := ["chance", "lead", "ahead", "own", "rival", "up", "down", "wins", "whole", "won", "units"]) (m := false) (b := b_walk) xm F sc_walk fun cdv A outer s H E W hr tk =>
    ss_cons (ss_par2s (i := 3) (j := 4) rfl sc_walk.nd (sa_cons (se_ix ixr ok_ix (se_var (pv 0)) (se_int)) (sa_cons (se_bin op_sub ok_sub (se_ix ixr ok_ix (se_var (pv 0)) (se_int)) (se_ix ixr ok_ix (se_var (pv 0)) (se_int))) (sa_nil))) (by decide))
    (ss_cons (ss_par2s (i := 5) (j := 6) rfl sc_walk.nd (sa_cons (se_bin opr_add (ok_add (m := false)) (se_var (pv 1)) (se_var (pv 2))) (sa_cons (se_bin op_sub ok_sub (se_var (pv 1)) (se_var (pv 2))) (sa_nil))) (by decide))
    (ss_cons (ss_if (st_cmp (opr_eq hr) ok_eq (se_var (pv 3)) (se_var (pv 4))) (ss_one (ss_ret (se_tup (sa_cons (se_call (fn_pure G_lowest) rfl tk (hr.mono (by decide)) D_lowest.m D_lowest.F.kp D_lowest.b (sa_cons (se_var (pv 5)) (sa_cons (se_bin opr_mul (ok_mul (m := false)) (se_int) (se_var (pv 1))) (sa_nil))) (len_cons (len_cons len_nil))) (sa_cons (se_tup (sa_cons (se_bin opr_mul (ok_mul (m := false)) (se_var (pv 5)) (se_var (pv 6))) (sa_cons (se_int) (sa_nil)))) (sa_nil)))))) (ss_nil))
    (ss_cons (ss_set (i := 7) sc_walk.nd rfl (Or.inl rfl) (se_bin opr_mul (ok_mul (m := false)) (se_call (fn_pure G_power) rfl tk (hr.mono (by decide)) D_power.m D_power.F.kp D_power.b (sa_cons (se_var (pv 3)) (sa_cons (se_var (pv 6)) (sa_nil))) (len_cons (len_cons len_nil))) (se_bin op_sub ok_sub (se_call (fn_pure G_power) rfl tk (hr.mono (by decide)) D_power.m D_power.F.kp D_power.b (sa_cons (se_var (pv 3)) (sa_cons (se_var (pv 5)) (sa_nil))) (len_cons (len_cons len_nil))) (se_call (fn_pure G_power) rfl tk (hr.mono (by decide)) D_power.m D_power.F.kp D_power.b (sa_cons (se_var (pv 4)) (sa_cons (se_var (pv 5)) (sa_nil))) (len_cons (len_cons len_nil))))))
    (ss_cons (ss_set (i := 8) sc_walk.nd rfl (Or.inl rfl) (se_bin op_sub ok_sub (se_call (fn_pure G_power) rfl tk (hr.mono (by decide)) D_power.m D_power.F.kp D_power.b (sa_cons (se_var (pv 3)) (sa_cons (se_bin opr_mul (ok_mul (m := false)) (se_int) (se_var (pv 1))) (sa_nil))) (len_cons (len_cons len_nil))) (se_call (fn_pure G_power) rfl tk (hr.mono (by decide)) D_power.m D_power.F.kp D_power.b (sa_cons (se_var (pv 4)) (sa_cons (se_bin opr_mul (ok_mul (m := false)) (se_int) (se_var (pv 1))) (sa_nil))) (len_cons (len_cons len_nil)))))
    (ss_cons (ss_set (i := 9) sc_walk.nd rfl (Or.inl rfl) (se_call (fn_pure G_lowest) rfl tk (hr.mono (by decide)) D_lowest.m D_lowest.F.kp D_lowest.b (sa_cons (se_var (pv 7)) (sa_cons (se_var (pv 8)) (sa_nil))) (len_cons (len_cons len_nil))))
    (ss_cons (ss_set (i := 10) sc_walk.nd rfl (Or.inl rfl) (se_call (fn_pure G_added) rfl tk (hr.mono (by decide)) D_added.m D_added.F.kp D_added.b (sa_cons (se_tup (sa_cons (se_bin opr_mul (ok_mul (m := false)) (se_bin opr_mul (ok_mul (m := false)) (se_int) (se_var (pv 1))) (se_ix ixr ok_ix (se_var (pv 9)) (se_int))) (sa_cons (se_ix ixr ok_ix (se_var (pv 9)) (se_int)) (sa_nil)))) (sa_cons (se_tup (sa_cons (se_un un_neg ok_neg (se_var (pv 5))) (sa_cons (se_int) (sa_nil)))) (sa_nil))) (len_cons (len_cons len_nil))))
    (ss_one (ss_ret (se_tup (sa_cons (se_var (pv 9)) (sa_cons (se_call (fn_pure G_times) rfl tk (hr.mono (by decide)) D_times.m D_times.F.kp D_times.b (sa_cons (se_var (pv 10)) (sa_cons (se_call (fn_pure G_lowest) rfl tk (hr.mono (by decide)) D_lowest.m D_lowest.F.kp D_lowest.b (sa_cons (se_ix ixr ok_ix (se_var (pv 0)) (se_int)) (sa_cons (se_bin op_sub ok_sub (se_var (pv 3)) (se_var (pv 4))) (sa_nil))) (len_cons (len_cons len_nil))) (sa_nil))) (len_cons (len_cons len_nil))) (sa_nil))))))))))))
abbrev s_most_units : Stmt := top 35
theorem sc_most_units : FnScope ["level", "path"] ["level"] (defScope s_most_units) := ⟨rfl, rfl, rfl, by decide +kernel, rfl, by decide +kernel, by decide +kernel⟩
theorem ok_most_units {f : Addr} {fd : FuncData} (F : Fun K "most_units" "most_units" s_most_units f fd) (T : TX mg) {a_rounds : Addr} {fd_rounds : FuncData} (D_rounds : Df K mg "rounds" s_rounds ["level"] a_rounds fd_rounds) (G_rounds : FnOk P w K mg base (L2.CX P w) 2 a_rounds fd_rounds ["level"] (spOf ⟨P, w, K⟩ xm 1 f_rounds)) : FnOk P w K mg base (L2.CX P w) 3 f fd ["level"] (spOf ⟨P, w, K⟩ xm 1 f_most_units) :=
  fn_ok (N := ["level", "path"]) (m := false) (b := b_most_units) xm F sc_most_units fun cdv A outer s H E W hr tk =>
    ss_cons (ss_if (st_bool (sw_and (st_cmp opr_is ok_is (se_ix ixr ok_ix (se_var (pv 0)) (se_int)) (se_non)) (sw_and1 (st_cmp op_gt ok_cmpI (se_ix ixr ok_ix (se_var (pv 0)) (se_int)) (se_int))))) (ss_one (ss_ret (se_non))) (ss_nil))
    (ss_one (ss_ret (se_callB (callr_max rfl hr) ok_max (sa_cons (se_lc (m := false) (own := [("path", 1)]) rfl sc_most_units.nd (blkOk_by (N := ["level", "path"]) (sc := defScope s_most_units) (by decide +kernel)) (by decide) (si_seq (se_call (fn_pure G_rounds) rfl tk (hr.mono (by decide)) D_rounds.m D_rounds.F.kp D_rounds.b (sa_cons (se_var (pv 0)) (sa_nil)) (len_cons len_nil))) (fun _ _ _ _ _ => pg_name (i := 1) sc_most_units.nd rfl (Or.inl rfl)) tgk_name (fun _ _ _ _ _ => spt_nil) (fun _ _ _ _ _ => se_callB call_len ok_len (sa_cons (se_var (pv 1)) (sa_nil)) rfl T.n_len bt_len)) (sa_nil)) rfl T.n_max bt_max)))
abbrev s_best_row : Stmt := top 39
theorem sc_best_row : FnScope ["level", "wins", "units", "best", "path", "value", "points", "side"] ["level", "wins", "units"] (defScope s_best_row) := ⟨rfl, rfl, rfl, by decide +kernel, rfl, by decide +kernel, by decide +kernel⟩
theorem ok_best_row {f : Addr} {fd : FuncData} (F : Fun K "best_row" "best_row" s_best_row f fd) (T : TX mg) {a_round_winner : Addr} {fd_round_winner : FuncData} (D_round_winner : Df K mg "round_winner" s_round_winner ["level", "pair"] a_round_winner fd_round_winner) (G_round_winner : FnOk P w K mg base (L2.CX P w) 1 a_round_winner fd_round_winner ["level", "pair"] (spOf ⟨P, w, K⟩ xm 2 f_round_winner)) {a_rounds : Addr} {fd_rounds : FuncData} (D_rounds : Df K mg "rounds" s_rounds ["level"] a_rounds fd_rounds) (G_rounds : FnOk P w K mg base (L2.CX P w) 2 a_rounds fd_rounds ["level"] (spOf ⟨P, w, K⟩ xm 1 f_rounds)) : FnOk P w K mg base (L2.CX P w) 3 f fd ["level", "wins", "units"] (spOf ⟨P, w, K⟩ xm 3 f_best_row) :=
  fn_ok (N := ["level", "wins", "units", "best", "path", "value", "points", "side"]) (m := false) (b := b_best_row) xm F sc_best_row fun cdv A outer s H E W hr tk =>
    ss_cons (ss_set (i := 3) sc_best_row.nd rfl (Or.inl rfl) (se_non))
    (ss_cons (ss_for (passes_of rfl) rfl (si_seq (se_call (fn_pure G_rounds) rfl tk (hr.mono (by decide)) D_rounds.m D_rounds.F.kp D_rounds.b (sa_cons (se_var (pv 0)) (sa_nil)) (len_cons len_nil))) (sg_name (pg_name (i := 4) sc_best_row.nd rfl (Or.inl rfl))) (ss_one (ss_if (st_cmp (opr_eq hr) ok_eq (se_call (fn_pure G_round_winner) rfl tk (hr.mono (by decide)) D_round_winner.m D_round_winner.F.kp D_round_winner.b (sa_cons (se_var (pv 0)) (sa_cons (se_tup (sa_cons (se_count (se_var (pv 4)) (sa_cons (se_int) (sa_nil))) (sa_cons (se_count (se_var (pv 4)) (sa_cons (se_int) (sa_nil))) (sa_nil)))) (sa_nil))) (len_cons (len_cons len_nil))) (se_if (st_val (se_var (pv 1))) (se_int) (se_int))) (ss_cons (ss_set (i := 5) sc_best_row.nd rfl (Or.inl rfl) (se_callB (callr_sum rfl) ok_sum (sa_cons (se_lc (m := false) (own := [("side", 7)]) rfl sc_best_row.nd (blkOk_by (N := ["level", "wins", "units", "best", "path", "value", "points", "side"]) (sc := defScope s_best_row) (by decide +kernel)) (by decide) (si_seq (se_var (pv 4))) (fun _ _ _ _ _ => pg_name (i := 7) sc_best_row.nd rfl (Or.inl rfl)) tgk_name (fun _ _ _ _ _ => spt_nil) (fun _ _ _ _ _ => se_ix ixr ok_ix (se_ix ixr ok_ix (se_var (pv 2)) (se_var (pv 7))) (se_int))) (sa_nil)) rfl T.n_sum bt_sum))
    (ss_cons (ss_set (i := 6) sc_best_row.nd rfl (Or.inl rfl) (se_callB (callr_sum rfl) ok_sum (sa_cons (se_lc (m := false) (own := [("side", 7)]) rfl sc_best_row.nd (blkOk_by (N := ["level", "wins", "units", "best", "path", "value", "points", "side"]) (sc := defScope s_best_row) (by decide +kernel)) (by decide) (si_seq (se_var (pv 4))) (fun _ _ _ _ _ => pg_name (i := 7) sc_best_row.nd rfl (Or.inl rfl)) tgk_name (fun _ _ _ _ _ => spt_nil) (fun _ _ _ _ _ => se_ix ixr ok_ix (se_ix ixr ok_ix (se_var (pv 2)) (se_var (pv 7))) (se_int))) (sa_nil)) rfl T.n_sum bt_sum))
    (ss_one (ss_if (st_bool (sw_or (st_cmp opr_is ok_is (se_var (pv 3)) (se_non)) (sw_or1 (st_cmp (opr_lt hr) ok_lt (se_tup (sa_cons (se_un un_neg ok_neg (se_var (pv 5))) (sa_cons (se_var (pv 6)) (sa_nil)))) (se_cut (m := false) (se_var (pv 3)) (so_none) (so_some (se_int))))))) (ss_one (ss_set (i := 3) sc_best_row.nd rfl (Or.inl rfl) (se_tup (sa_cons (se_un un_neg ok_neg (se_var (pv 5))) (sa_cons (se_var (pv 6)) (sa_cons (se_var (pv 4)) (sa_nil))))))) (ss_nil))))) (ss_nil))))
    (ss_one (ss_ret (se_tup (sa_cons (se_un un_neg ok_neg (se_ix ixr ok_ix (se_var (pv 3)) (se_int))) (sa_cons (se_ix ixr ok_ix (se_var (pv 3)) (se_int)) (sa_cons (se_ix ixr ok_ix (se_var (pv 3)) (se_int)) (sa_nil))))))))
abbrev s__law_level : Stmt := top 45
theorem sc__law_level : FnScope ["_law_script", "_law_town", "_law_most", "_law_target", "_law_cap"] ["_law_script", "_law_town", "_law_most"] (defScope s__law_level) := ⟨rfl, rfl, rfl, by decide +kernel, rfl, by decide +kernel, by decide +kernel⟩
theorem ok__law_level {f : Addr} {fd : FuncData} (F : Fun K "_law_level" "_law_level" s__law_level f fd) (T : TX mg) {a__law_draw : Addr} {fd__law_draw : FuncData} (D__law_draw : Df K mg "_law_draw" s__law_draw ["_law_script", "_law_town", "_law_many"] a__law_draw fd__law_draw) (G__law_draw : FnOk P w K mg base (L2.CX P w) 1 a__law_draw fd__law_draw ["_law_script", "_law_town", "_law_many"] (spOf ⟨P, w, K⟩ xm 3 f__law_draw)) {a__law_pick : Addr} {fd__law_pick : FuncData} (D__law_pick : Df K mg "_law_pick" s__law_pick ["_law_script", "_law_town", "_law_some"] a__law_pick fd__law_pick) (G__law_pick : FnOk P w K mg base (L2.CX P w) 2 a__law_pick fd__law_pick ["_law_script", "_law_town", "_law_some"] (spOf ⟨P, w, K⟩ xm 3 f__law_pick)) : FnOk P w K mg base (L2.CX P w) 3 f fd ["_law_script", "_law_town", "_law_most"] (spOf ⟨P, w, K⟩ xm 3 f__law_level) :=
  fn_ok (N := ["_law_script", "_law_town", "_law_most", "_law_target", "_law_cap"]) (m := false) (b := b__law_level) xm F sc__law_level fun cdv A outer s H E W hr tk =>
    ss_cons (ss_set (i := 3) sc__law_level.nd rfl (Or.inl rfl) (se_bin opr_add (ok_add (m := false)) (se_int) (se_call G__law_draw rfl tk (hr.mono (by decide)) D__law_draw.m D__law_draw.F.kp D__law_draw.b (sa_cons (se_var (pv 0)) (sa_cons (se_var (pv 1)) (sa_cons (se_var (pv 2)) (sa_nil)))) (len_cons (len_cons (len_cons len_nil))))))
    (ss_cons (ss_set (i := 4) sc__law_level.nd rfl (Or.inl rfl) (se_call G__law_pick rfl tk (hr.mono (by decide)) D__law_pick.m D__law_pick.F.kp D__law_pick.b (sa_cons (se_var (pv 0)) (sa_cons (se_var (pv 1)) (sa_cons (se_lst (m := false) (sa_cons (se_non) (sa_cons (se_non) (sa_cons (se_var (pv 3)) (sa_cons (se_bin opr_add (ok_add (m := false)) (se_var (pv 3)) (se_int)) (sa_cons (se_bin opr_add (ok_add (m := false)) (se_var (pv 3)) (se_int)) (sa_nil))))))) (sa_nil)))) (len_cons (len_cons (len_cons len_nil)))))
    (ss_one (ss_ret (se_tup (sa_cons (se_var (pv 3)) (sa_cons (se_bin opr_add (ok_add (m := false)) (se_int) (se_call G__law_draw rfl tk (hr.mono (by decide)) D__law_draw.m D__law_draw.F.kp D__law_draw.b (sa_cons (se_var (pv 0)) (sa_cons (se_var (pv 1)) (sa_cons (se_int) (sa_nil)))) (len_cons (len_cons (len_cons len_nil))))) (sa_cons (se_var (pv 4)) (sa_nil))))))))
abbrev s__law_written : Stmt := top 48
theorem sc__law_written : FnScope ["_law_script", "_law_town", "_law_level_here", "_law_target", "_law_lead", "_law_cap"] ["_law_script", "_law_town", "_law_level_here"] (defScope s__law_written) := ⟨rfl, rfl, rfl, by decide +kernel, rfl, by decide +kernel, by decide +kernel⟩
theorem ok__law_written {f : Addr} {fd : FuncData} (F : Fun K "_law_written" "_law_written" s__law_written f fd) (T : TX mg) {a__law_draw : Addr} {fd__law_draw : FuncData} (D__law_draw : Df K mg "_law_draw" s__law_draw ["_law_script", "_law_town", "_law_many"] a__law_draw fd__law_draw) (G__law_draw : FnOk P w K mg base (L2.CX P w) 1 a__law_draw fd__law_draw ["_law_script", "_law_town", "_law_many"] (spOf ⟨P, w, K⟩ xm 3 f__law_draw)) {a__law_pick : Addr} {fd__law_pick : FuncData} (D__law_pick : Df K mg "_law_pick" s__law_pick ["_law_script", "_law_town", "_law_some"] a__law_pick fd__law_pick) (G__law_pick : FnOk P w K mg base (L2.CX P w) 2 a__law_pick fd__law_pick ["_law_script", "_law_town", "_law_some"] (spOf ⟨P, w, K⟩ xm 3 f__law_pick)) : FnOk P w K mg base (L2.CX P w) 3 f fd ["_law_script", "_law_town", "_law_level_here"] (spOf ⟨P, w, K⟩ xm 3 f__law_written) :=
  fn_ok (N := ["_law_script", "_law_town", "_law_level_here", "_law_target", "_law_lead", "_law_cap"]) (m := false) (b := b__law_written) xm F sc__law_written fun cdv A outer s H E W hr tk =>
    ss_cons (ss_asgT (sg_tup (n := 3) (sgs_cons (pg_name (i := 3) sc__law_written.nd rfl (Or.inl rfl)) (sgs_cons (pg_name (i := 4) sc__law_written.nd rfl (Or.inl rfl)) (sgs_cons (pg_name (i := 5) sc__law_written.nd rfl (Or.inl rfl)) (sgs_nil)))) rfl rfl) (se_var (pv 2)))
    (ss_cons (ss_if (st_cmp (opr_eq hr) ok_eq (se_var (pv 4)) (se_int)) (ss_one (ss_ret (se_tup (sa_cons (se_var (pv 3)) (sa_cons (se_int) (sa_cons (se_call G__law_pick rfl tk (hr.mono (by decide)) D__law_pick.m D__law_pick.F.kp D__law_pick.b (sa_cons (se_var (pv 0)) (sa_cons (se_var (pv 1)) (sa_cons (se_lst (m := false) (sa_cons (se_non) (sa_cons (se_var (pv 3)) (sa_cons (se_bin opr_add (ok_add (m := false)) (se_var (pv 3)) (se_int)) (sa_cons (se_int) (sa_nil)))))) (sa_nil)))) (len_cons (len_cons (len_cons len_nil)))) (sa_nil))))))) (ss_nil))
    (ss_cons (ss_if (st_cmp (opr_eq hr) ok_eq (se_var (pv 5)) (se_var (pv 3))) (ss_one (ss_ret (se_tup (sa_cons (se_var (pv 3)) (sa_cons (se_bin opr_add (ok_add (m := false)) (se_int) (se_call G__law_draw rfl tk (hr.mono (by decide)) D__law_draw.m D__law_draw.F.kp D__law_draw.b (sa_cons (se_var (pv 0)) (sa_cons (se_var (pv 1)) (sa_cons (se_int) (sa_nil)))) (len_cons (len_cons (len_cons len_nil))))) (sa_cons (se_var (pv 3)) (sa_nil))))))) (ss_nil))
    (ss_cons (ss_if (st_bool (sw_and (st_cmp (opr_lt hr) ok_lt (se_var (pv 3)) (se_var (pv 4))) (sw_and1 (st_bool (sw_or (st_cmp opr_is ok_is (se_var (pv 5)) (se_non)) (sw_or1 (st_cmp op_ge ok_cmpI (se_var (pv 5)) (se_var (pv 4))))))))) (ss_one (ss_ret (se_tup (sa_cons (se_call G__law_pick rfl tk (hr.mono (by decide)) D__law_pick.m D__law_pick.F.kp D__law_pick.b (sa_cons (se_var (pv 0)) (sa_cons (se_var (pv 1)) (sa_cons (se_lst (m := false) (sa_cons (se_var (pv 3)) (sa_cons (se_var (pv 4)) (sa_nil)))) (sa_nil)))) (len_cons (len_cons (len_cons len_nil)))) (sa_cons (se_var (pv 4)) (sa_cons (se_var (pv 5)) (sa_nil))))))) (ss_nil))
    (ss_one (ss_ret (se_var (pv 2)))))))
abbrev s__law_wider : Stmt := top 49
theorem sc__law_wider : FnScope ["_law_script", "_law_town", "_law_form_here", "_law_at", "_law_one"] ["_law_script", "_law_town", "_law_form_here"] (defScope s__law_wider) := ⟨rfl, rfl, rfl, by decide +kernel, rfl, by decide +kernel, by decide +kernel⟩
theorem ok__law_wider {f : Addr} {fd : FuncData} (F : Fun K "_law_wider" "_law_wider" s__law_wider f fd) (T : TX mg) {a__law_draw : Addr} {fd__law_draw : FuncData} (D__law_draw : Df K mg "_law_draw" s__law_draw ["_law_script", "_law_town", "_law_many"] a__law_draw fd__law_draw) (G__law_draw : FnOk P w K mg base (L2.CX P w) 1 a__law_draw fd__law_draw ["_law_script", "_law_town", "_law_many"] (spOf ⟨P, w, K⟩ xm 3 f__law_draw)) {a__law_pick : Addr} {fd__law_pick : FuncData} (D__law_pick : Df K mg "_law_pick" s__law_pick ["_law_script", "_law_town", "_law_some"] a__law_pick fd__law_pick) (G__law_pick : FnOk P w K mg base (L2.CX P w) 2 a__law_pick fd__law_pick ["_law_script", "_law_town", "_law_some"] (spOf ⟨P, w, K⟩ xm 3 f__law_pick)) : FnOk P w K mg base (L2.CX P w) 3 f fd ["_law_script", "_law_town", "_law_form_here"] (spOf ⟨P, w, K⟩ xm 3 f__law_wider) :=
  fn_ok (N := ["_law_script", "_law_town", "_law_form_here", "_law_at", "_law_one"]) (m := false) (b := b__law_wider) xm F sc__law_wider fun cdv A outer s H E W hr tk =>
    ss_cons (ss_set (i := 3) sc__law_wider.nd rfl (Or.inl rfl) (se_call G__law_draw rfl tk (hr.mono (by decide)) D__law_draw.m D__law_draw.F.kp D__law_draw.b (sa_cons (se_var (pv 0)) (sa_cons (se_var (pv 1)) (sa_cons (se_bin opr_add (ok_add (m := false)) (se_callB call_len ok_len (sa_cons (se_var (pv 2)) (sa_nil)) rfl T.n_len bt_len) (se_int)) (sa_nil)))) (len_cons (len_cons (len_cons len_nil)))))
    (ss_cons (ss_set (i := 4) sc__law_wider.nd rfl (Or.inl rfl) (se_call G__law_pick rfl tk (hr.mono (by decide)) D__law_pick.m D__law_pick.F.kp D__law_pick.b (sa_cons (se_var (pv 0)) (sa_cons (se_var (pv 1)) (sa_cons (se_lst (m := false) (sa_cons (se_tup (sa_cons (se_int) (sa_cons (se_int) (sa_cons (se_non) (sa_nil))))) (sa_cons (se_tup (sa_cons (se_int) (sa_cons (se_int) (sa_cons (se_int) (sa_nil))))) (sa_cons (se_tup (sa_cons (se_int) (sa_cons (se_int) (sa_cons (se_int) (sa_nil))))) (sa_cons (se_tup (sa_cons (se_int) (sa_cons (se_int) (sa_cons (se_int) (sa_nil))))) (sa_nil)))))) (sa_nil)))) (len_cons (len_cons (len_cons len_nil)))))
    (ss_one (ss_ret (se_bin opr_add (ok_add (m := false)) (se_bin opr_add (ok_add (m := false)) (se_cut (m := false) (se_var (pv 2)) (so_none) (so_some (se_var (pv 3)))) (se_tup (sa_cons (se_var (pv 4)) (sa_nil)))) (se_cut (m := false) (se_var (pv 2)) (so_some (se_var (pv 3))) (so_none))))))
abbrev s_need_form : Stmt := top 12
theorem sc_need_form : FnScope ["value"] ["value"] (defScope s_need_form) := ⟨rfl, rfl, rfl, by decide +kernel, rfl, by decide +kernel, by decide +kernel⟩
theorem ok_need_form {f : Addr} {fd : FuncData} (F : Fun K "need_form" "need_form" s_need_form f fd) (T : TX mg) {a_is_form : Addr} {fd_is_form : FuncData} (D_is_form : Df K mg "is_form" s_is_form ["value"] a_is_form fd_is_form) (G_is_form : FnOk P w K mg base (L2.CX P w) 3 a_is_form fd_is_form ["value"] (spOf ⟨P, w, K⟩ xm 1 f_is_form)) : FnOk P w K mg base (L2.CX P w) 4 f fd ["value"] (spOf ⟨P, w, K⟩ xm 1 f_need_form) :=
  fn_ok (N := ["value"]) (m := false) (b := b_need_form) xm F sc_need_form fun cdv A outer s H E W hr tk =>
    ss_one (ss_if (st_not (st_val (se_call (fn_pure G_is_form) rfl tk (hr.mono (by decide)) D_is_form.m D_is_form.F.kp D_is_form.b (sa_cons (se_var (pv 0)) (sa_nil)) (len_cons len_nil)))) (ss_one (ss_bad)) (ss_nil))
abbrev s_round_of : Stmt := top 29
theorem sc_round_of : FnScope ["level", "chance", "ends", "pair", "most", "rival", "won", "units", "rest", "weight", "side", "whole", "found", "ahead", "share", "more"] ["level", "chance"] (defScope s_round_of) := ⟨rfl, rfl, rfl, by decide +kernel, rfl, by decide +kernel, by decide +kernel⟩
theorem ok_round_of {f : Addr} {fd : FuncData} (F : Fun K "round_of" "round_of" s_round_of f fd) (T : TX mg) {a_round_winner : Addr} {fd_round_winner : FuncData} (D_round_winner : Df K mg "round_winner" s_round_winner ["level", "pair"] a_round_winner fd_round_winner) (G_round_winner : FnOk P w K mg base (L2.CX P w) 1 a_round_winner fd_round_winner ["level", "pair"] (spOf ⟨P, w, K⟩ xm 2 f_round_winner)) {a_lowest : Addr} {fd_lowest : FuncData} (D_lowest : Df K mg "lowest" s_lowest ["numerator", "denominator"] a_lowest fd_lowest) (G_lowest : FnOk P w K mg base (L2.CX P w) 1 a_lowest fd_lowest ["numerator", "denominator"] (spOf ⟨P, w, K⟩ xm 2 f_lowest)) {a_times : Addr} {fd_times : FuncData} (D_times : Df K mg "times" s_times ["one", "two"] a_times fd_times) (G_times : FnOk P w K mg base (L2.CX P w) 2 a_times fd_times ["one", "two"] (spOf ⟨P, w, K⟩ xm 2 f_times)) {a_added : Addr} {fd_added : FuncData} (D_added : Df K mg "added" s_added ["one", "two"] a_added fd_added) (G_added : FnOk P w K mg base (L2.CX P w) 2 a_added fd_added ["one", "two"] (spOf ⟨P, w, K⟩ xm 2 f_added)) {a_power : Addr} {fd_power : FuncData} (D_power : Df K mg "power" s_power ["base", "many"] a_power fd_power) (G_power : FnOk P w K mg base (L2.CX P w) 1 a_power fd_power ["base", "many"] (spOf ⟨P, w, K⟩ xm 2 f_power)) {a_walk : Addr} {fd_walk : FuncData} (D_walk : Df K mg "walk" s_walk ["chance", "lead", "ahead"] a_walk fd_walk) (G_walk : FnOk P w K mg base (L2.CX P w) 3 a_walk fd_walk ["chance", "lead", "ahead"] (spOf ⟨P, w, K⟩ xm 3 f_walk)) {a_ends_of : Addr} {fd_ends_of : FuncData} (D_ends_of : Df K mg "ends_of" s_ends_of ["level"] a_ends_of fd_ends_of) (G_ends_of : FnOk P w K mg base (L2.CX P w) 2 a_ends_of fd_ends_of ["level"] (spOf ⟨P, w, K⟩ xm 1 f_ends_of)) : FnOk P w K mg base (L2.CX P w) 4 f fd ["level", "chance"] (spOf ⟨P, w, K⟩ xm 2 f_round_of) :=
  fn_ok (N := ["level", "chance", "ends", "pair", "most", "rival", "won", "units", "rest", "weight", "side", "whole", "found", "ahead", "share", "more"]) (m := false) (b := b_round_of) xm F sc_round_of fun cdv A outer s H E W hr tk =>
    ss_cons (ss_set (i := 2) sc_round_of.nd rfl (Or.inl rfl) (se_call G_ends_of rfl tk (hr.mono (by decide)) D_ends_of.m D_ends_of.F.kp D_ends_of.b (sa_cons (se_var (pv 0)) (sa_nil)) (len_cons len_nil)))
    (ss_cons (ss_par2s (i := 4) (j := 5) rfl sc_round_of.nd (sa_cons (se_callB (callr_max rfl hr) ok_max (sa_cons (se_lock (se_lc (m := false) (own := [("pair", 3)]) rfl sc_round_of.nd (blkOk_by (N := ["level", "chance", "ends", "pair", "most", "rival", "won", "units", "rest", "weight", "side", "whole", "found", "ahead", "share", "more"]) (sc := defScope s_round_of) (by decide +kernel)) (by decide) (si_keysD (se_var (pv 2))) (fun _ _ _ _ _ => pg_name (i := 3) sc_round_of.nd rfl (Or.inl rfl)) tgk_name (fun _ _ _ _ _ => spt_nil) (fun _ _ _ _ _ => se_callB (callr_sum rfl) ok_sum (sa_cons (se_var (pv 3)) (sa_nil)) rfl T.n_sum bt_sum))) (sa_nil)) rfl T.n_max bt_max) (sa_cons (se_bin op_sub ok_sub (se_ix ixr ok_ix (se_var (pv 1)) (se_int)) (se_ix ixr ok_ix (se_var (pv 1)) (se_int))) (sa_nil))) (by decide))
    (ss_cons (ss_par3s (i := 6) (j := 7) (l := 8) rfl sc_round_of.nd (sa_cons (se_int) (sa_cons (se_int) (sa_cons (se_dki0) (sa_nil)))) (by decide) (by decide) (by decide))
    (ss_cons (ss_lock (ss_for (passes_of rfl) rfl (si_keysD (se_var (pv 2))) (sg_name (pg_name (i := 3) sc_round_of.nd rfl (Or.inl rfl))) (ss_cons (ss_set (i := 9) sc_round_of.nd rfl (Or.inl rfl) (se_bin opr_mul (ok_mul (m := false)) (se_bin opr_mul (ok_mul (m := false)) (se_bin opr_mul (ok_mul (m := false)) (se_ix (ix_x (hu9 hr)) ok_getX (se_var (pv 2)) (se_var (pv 3))) (se_call (fn_pure G_power) rfl tk (hr.mono (by decide)) D_power.m D_power.F.kp D_power.b (sa_cons (se_ix ixr ok_ix (se_var (pv 1)) (se_int)) (sa_cons (se_ix ixr ok_ix (se_var (pv 3)) (se_int)) (sa_nil))) (len_cons (len_cons len_nil)))) (se_call (fn_pure G_power) rfl tk (hr.mono (by decide)) D_power.m D_power.F.kp D_power.b (sa_cons (se_var (pv 5)) (sa_cons (se_ix ixr ok_ix (se_var (pv 3)) (se_int)) (sa_nil))) (len_cons (len_cons len_nil)))) (se_call (fn_pure G_power) rfl tk (hr.mono (by decide)) D_power.m D_power.F.kp D_power.b (sa_cons (se_ix ixr ok_ix (se_var (pv 1)) (se_int)) (sa_cons (se_bin op_sub ok_sub (se_var (pv 4)) (se_callB (callr_sum rfl) ok_sum (sa_cons (se_var (pv 3)) (sa_nil)) rfl T.n_sum bt_sum)) (sa_nil))) (len_cons (len_cons len_nil)))))
    (ss_cons (ss_aug (i := 7) sc_round_of.nd rfl (Or.inl rfl) iop_add ok_addI (se_bin opr_mul (ok_mul (m := false)) (se_var (pv 9)) (se_callB (callr_sum rfl) ok_sum (sa_cons (se_var (pv 3)) (sa_nil)) rfl T.n_sum bt_sum)))
    (ss_cons (ss_set (i := 10) sc_round_of.nd rfl (Or.inl rfl) (se_call (fn_pure G_round_winner) rfl tk (hr.mono (by decide)) D_round_winner.m D_round_winner.F.kp D_round_winner.b (sa_cons (se_var (pv 0)) (sa_cons (se_var (pv 3)) (sa_nil))) (len_cons (len_cons len_nil))))
    (ss_one (ss_if (st_cmp opr_is ok_is (se_var (pv 10)) (se_non)) (ss_one (ss_setX (hu9 hr) (se_bin opr_add (ok_add (m := false)) (se_getX (hu9 hr) (se_var (pv 8)) (se_bin op_sub ok_sub (se_ix ixr ok_ix (se_var (pv 3)) (se_int)) (se_ix ixr ok_ix (se_var (pv 3)) (se_int))) (se_int) ⟨rfl, rfl, rfl, rfl⟩) (se_var (pv 9))) (se_var (pv 8)) (se_bin op_sub ok_sub (se_ix ixr ok_ix (se_var (pv 3)) (se_int)) (se_ix ixr ok_ix (se_var (pv 3)) (se_int))))) (ss_one (ss_if (st_cmp (opr_eq hr) ok_eq (se_var (pv 10)) (se_int)) (ss_one (ss_aug (i := 6) sc_round_of.nd rfl (Or.inl rfl) iop_add ok_addI (se_var (pv 9)))) (ss_nil))))))))))
    (ss_cons (ss_set (i := 11) sc_round_of.nd rfl (Or.inl rfl) (se_call (fn_pure G_power) rfl tk (hr.mono (by decide)) D_power.m D_power.F.kp D_power.b (sa_cons (se_ix ixr ok_ix (se_var (pv 1)) (se_int)) (sa_cons (se_var (pv 4)) (sa_nil))) (len_cons (len_cons len_nil))))
    (ss_cons (ss_set (i := 12) sc_round_of.nd rfl (Or.inl rfl) (se_tup (sa_cons (se_call (fn_pure G_lowest) rfl tk (hr.mono (by decide)) D_lowest.m D_lowest.F.kp D_lowest.b (sa_cons (se_var (pv 6)) (sa_cons (se_var (pv 11)) (sa_nil))) (len_cons (len_cons len_nil))) (sa_cons (se_call (fn_pure G_lowest) rfl tk (hr.mono (by decide)) D_lowest.m D_lowest.F.kp D_lowest.b (sa_cons (se_var (pv 7)) (sa_cons (se_var (pv 11)) (sa_nil))) (len_cons (len_cons len_nil))) (sa_nil)))))
    (ss_cons (ss_lock (ss_for (passes_of rfl) rfl (si_keysD (se_var (pv 8))) (sg_name (pg_name (i := 13) sc_round_of.nd rfl (Or.inl rfl))) (ss_cons (ss_par2s (i := 14) (j := 15) rfl sc_round_of.nd (sa_cons (se_call (fn_pure G_lowest) rfl tk (hr.mono (by decide)) D_lowest.m D_lowest.F.kp D_lowest.b (sa_cons (se_ix (ix_x (hu9 hr)) ok_getX (se_var (pv 8)) (se_var (pv 13))) (sa_cons (se_var (pv 11)) (sa_nil))) (len_cons (len_cons len_nil))) (sa_cons (se_call (fn_pure G_walk) rfl tk (hr.mono (by decide)) D_walk.m D_walk.F.kp D_walk.b (sa_cons (se_var (pv 1)) (sa_cons (se_ix ixr ok_ix (se_var (pv 0)) (se_int)) (sa_cons (se_var (pv 13)) (sa_nil)))) (len_cons (len_cons (len_cons len_nil)))) (sa_nil))) (by decide))
    (ss_one (ss_set (i := 12) sc_round_of.nd rfl (Or.inl rfl) (se_tup (sa_cons (se_call (fn_pure G_added) rfl tk (hr.mono (by decide)) D_added.m D_added.F.kp D_added.b (sa_cons (se_ix ixr ok_ix (se_var (pv 12)) (se_int)) (sa_cons (se_call (fn_pure G_times) rfl tk (hr.mono (by decide)) D_times.m D_times.F.kp D_times.b (sa_cons (se_var (pv 14)) (sa_cons (se_ix ixr ok_ix (se_var (pv 15)) (se_int)) (sa_nil))) (len_cons (len_cons len_nil))) (sa_nil))) (len_cons (len_cons len_nil))) (sa_cons (se_call (fn_pure G_added) rfl tk (hr.mono (by decide)) D_added.m D_added.F.kp D_added.b (sa_cons (se_ix ixr ok_ix (se_var (pv 12)) (se_int)) (sa_cons (se_call (fn_pure G_times) rfl tk (hr.mono (by decide)) D_times.m D_times.F.kp D_times.b (sa_cons (se_var (pv 14)) (sa_cons (se_ix ixr ok_ix (se_var (pv 15)) (se_int)) (sa_nil))) (len_cons (len_cons len_nil))) (sa_nil))) (len_cons (len_cons len_nil))) (sa_nil)))))))))
    (ss_one (ss_ret (se_var (pv 12))))))))))
abbrev s_surpluses : Stmt := top 40
theorem sc_surpluses : FnScope ["form", "units", "found", "level", "won", "lost"] ["form"] (defScope s_surpluses) := ⟨rfl, rfl, rfl, by decide +kernel, rfl, by decide +kernel, by decide +kernel⟩
theorem ok_surpluses {f : Addr} {fd : FuncData} (F : Fun K "surpluses" "surpluses" s_surpluses f fd) (T : TX mg) {a_best_row : Addr} {fd_best_row : FuncData} (D_best_row : Df K mg "best_row" s_best_row ["level", "wins", "units"] a_best_row fd_best_row) (G_best_row : FnOk P w K mg base (L2.CX P w) 3 a_best_row fd_best_row ["level", "wins", "units"] (spOf ⟨P, w, K⟩ xm 3 f_best_row)) : FnOk P w K mg base (L2.CX P w) 4 f fd ["form"] (spOf ⟨P, w, K⟩ xm 1 f_surpluses) :=
  fn_ok (N := ["form", "units", "found", "level", "won", "lost"]) (m := false) (b := b_surpluses) xm F sc_surpluses fun cdv A outer s H E W hr tk =>
    ss_cons (ss_par2s (i := 1) (j := 2) rfl sc_surpluses.nd (sa_cons (se_tup (sa_cons (se_tup (sa_cons (se_un un_neg ok_neg (se_int)) (sa_cons (se_int) (sa_nil)))) (sa_cons (se_tup (sa_cons (se_int) (sa_cons (se_int) (sa_nil)))) (sa_nil)))) (sa_cons (se_lst (m := true) (sa_nil)) (sa_nil))) (by decide))
    (ss_cons (ss_for (passes_of rfl) rfl (si_seq (se_var (pv 0))) (sg_name (pg_name (i := 3) sc_surpluses.nd rfl (Or.inl rfl))) (ss_cons (ss_if (st_bool (sw_and (st_cmp opr_is ok_is (se_ix ixr ok_ix (se_var (pv 3)) (se_int)) (se_non)) (sw_and (st_cmp op_gt ok_cmpI (se_ix ixr ok_ix (se_var (pv 3)) (se_int)) (se_int)) (sw_and1 (st_cmp op_gt ok_cmpI (se_bin opr_add (ok_add (m := false)) (se_ix ixr ok_ix (se_ix ixr ok_ix (se_var (pv 1)) (se_int)) (se_int)) (se_ix ixr ok_ix (se_ix ixr ok_ix (se_var (pv 1)) (se_int)) (se_int))) (se_int)))))) (ss_one (ss_ret (se_non))) (ss_nil))
    (ss_cons (ss_par2s (i := 4) (j := 5) rfl sc_surpluses.nd (sa_cons (se_call (fn_pure G_best_row) rfl tk (hr.mono (by decide)) D_best_row.m D_best_row.F.kp D_best_row.b (sa_cons (se_var (pv 3)) (sa_cons (se_bl) (sa_cons (se_var (pv 1)) (sa_nil)))) (len_cons (len_cons (len_cons len_nil)))) (sa_cons (se_call (fn_pure G_best_row) rfl tk (hr.mono (by decide)) D_best_row.m D_best_row.F.kp D_best_row.b (sa_cons (se_var (pv 3)) (sa_cons (se_bl) (sa_cons (se_var (pv 1)) (sa_nil)))) (len_cons (len_cons (len_cons len_nil)))) (sa_nil))) (by decide))
    (ss_cons (ss_expr (se_append (se_var (pv 2)) (sa_cons (se_tup (sa_cons (se_var (pv 4)) (sa_cons (se_var (pv 5)) (sa_nil)))) (sa_nil))))
    (ss_one (ss_set (i := 1) sc_surpluses.nd rfl (Or.inl rfl) (se_tup (sa_cons (se_cut (m := false) (se_var (pv 4)) (so_none) (so_some (se_int))) (sa_cons (se_cut (m := false) (se_var (pv 5)) (so_none) (so_some (se_int))) (sa_nil))))))))))
    (ss_one (ss_ret (se_var (pv 2)))))
abbrev s__law_form : Stmt := top 46
theorem sc__law_form : FnScope ["_law_script", "_law_town", "_law_levels", "_law_k"] ["_law_script", "_law_town"] (defScope s__law_form) := ⟨rfl, rfl, rfl, by decide +kernel, rfl, by decide +kernel, by decide +kernel⟩
theorem ok__law_form {f : Addr} {fd : FuncData} (F : Fun K "_law_form" "_law_form" s__law_form f fd) (T : TX mg) {a__law_pick : Addr} {fd__law_pick : FuncData} (D__law_pick : Df K mg "_law_pick" s__law_pick ["_law_script", "_law_town", "_law_some"] a__law_pick fd__law_pick) (G__law_pick : FnOk P w K mg base (L2.CX P w) 2 a__law_pick fd__law_pick ["_law_script", "_law_town", "_law_some"] (spOf ⟨P, w, K⟩ xm 3 f__law_pick)) {a__law_level : Addr} {fd__law_level : FuncData} (D__law_level : Df K mg "_law_level" s__law_level ["_law_script", "_law_town", "_law_most"] a__law_level fd__law_level) (G__law_level : FnOk P w K mg base (L2.CX P w) 3 a__law_level fd__law_level ["_law_script", "_law_town", "_law_most"] (spOf ⟨P, w, K⟩ xm 3 f__law_level)) : FnOk P w K mg base (L2.CX P w) 4 f fd ["_law_script", "_law_town"] (spOf ⟨P, w, K⟩ xm 2 f__law_form) :=
  fn_ok (N := ["_law_script", "_law_town", "_law_levels", "_law_k"]) (m := false) (b := b__law_form) xm F sc__law_form fun cdv A outer s H E W hr tk =>
    ss_cons (ss_set (i := 2) sc__law_form.nd rfl (Or.inr rfl) (se_call G__law_pick rfl tk (hr.mono (by decide)) D__law_pick.m D__law_pick.F.kp D__law_pick.b (sa_cons (se_var (pv 0)) (sa_cons (se_var (pv 1)) (sa_cons (se_lst (m := false) (sa_cons (se_int) (sa_cons (se_int) (sa_cons (se_int) (sa_cons (se_int) (sa_cons (se_int) (sa_nil))))))) (sa_nil)))) (len_cons (len_cons (len_cons len_nil)))))
    (ss_one (ss_ret (se_callTy call_tuple_of ok_tuple (sa_cons (se_lc (m := false) (own := [("_law_k", 3)]) rfl sc__law_form.nd (blkOk_by (N := ["_law_script", "_law_town", "_law_levels", "_law_k"]) (sc := defScope s__law_form) (by decide +kernel)) (by decide) (si_range1 (sa_cons (se_var (pv 2)) (sa_nil)) rfl T.n_range) (fun _ _ _ _ _ => pg_name (i := 3) sc__law_form.nd rfl (Or.inl rfl)) tgk_name (fun _ _ _ _ _ => spt_nil) (fun _ _ _ _ _ => se_call G__law_level rfl takes0 (hr.mono (by decide)) D__law_level.m D__law_level.F.kp D__law_level.b (sa_cons (se_var (pv 0)) (sa_cons (se_var (pv 1)) (sa_cons (se_if (st_cmp (opr_lt hr) ok_lt (se_var (pv 2)) (se_int)) (se_bin op_sub ok_sub (se_int) (se_var (pv 2))) (se_int)) (sa_nil)))) (len_cons (len_cons (len_cons len_nil))))) (sa_nil)) rfl T.n_tuple bt_tuple)))
abbrev s_parting : Stmt := top 21
theorem sc_parting : FnScope ["form", "other", "start", "sources", "level", "later", "key", "side", "one", "two", "reached"] ["form", "other"] (defScope s_parting) := ⟨rfl, rfl, rfl, by decide +kernel, rfl, by decide +kernel, by decide +kernel⟩
theorem ok_parting {f : Addr} {fd : FuncData} (F : Fun K "parting" "parting" s_parting f fd) (T : TX mg) {a_need_form : Addr} {fd_need_form : FuncData} (D_need_form : Df K mg "need_form" s_need_form ["value"] a_need_form fd_need_form) (G_need_form : FnOk P w K mg base (L2.CX P w) 4 a_need_form fd_need_form ["value"] (spOf ⟨P, w, K⟩ xm 1 f_need_form)) {a_start_of : Addr} {fd_start_of : FuncData} (D_start_of : Df K mg "start_of" s_start_of ["form"] a_start_of fd_start_of) (G_start_of : FnOk P w K mg base (L2.CX P w) 1 a_start_of fd_start_of ["form"] (spOf ⟨P, w, K⟩ xm 1 f_start_of)) {a_after : Addr} {fd_after : FuncData} (D_after : Df K mg "after" s_after ["form", "score", "side"] a_after fd_after) (G_after : FnOk P w K mg base (L2.CX P w) 2 a_after fd_after ["form", "score", "side"] (spOf ⟨P, w, K⟩ xm 3 f_after)) {a_settled : Addr} {fd_settled : FuncData} (D_settled : Df K mg "settled" s_settled ["form", "now"] a_settled fd_settled) (G_settled : FnOk P w K mg base (L2.CX P w) 1 a_settled fd_settled ["form", "now"] (spOf ⟨P, w, K⟩ xm 2 f_settled)) {a_row_to : Addr} {fd_row_to : FuncData} (D_row_to : Df K mg "row_to" s_row_to ["sources", "key"] a_row_to fd_row_to) (G_row_to : FnOk P w K mg base (L2.CX P w) 1 a_row_to fd_row_to ["sources", "key"] (spOf ⟨P, w, K⟩ xm 2 f_row_to)) : FnOk P w K mg base (L2.CX P w) 5 f fd ["form", "other"] (spOf ⟨P, w, K⟩ xm 2 f_parting) :=
  fn_ok (N := ["form", "other", "start", "sources", "level", "later", "key", "side", "one", "two", "reached"]) (m := false) (b := b_parting) xm F sc_parting fun cdv A outer s H E W hr tk =>
    ss_cons (ss_expr (se_call (fn_pure G_need_form) rfl tk (hr.mono (by decide)) D_need_form.m D_need_form.F.kp D_need_form.b (sa_cons (se_var (pv 0)) (sa_nil)) (len_cons len_nil)))
    (ss_cons (ss_expr (se_call (fn_pure G_need_form) rfl tk (hr.mono (by decide)) D_need_form.m D_need_form.F.kp D_need_form.b (sa_cons (se_var (pv 1)) (sa_nil)) (len_cons len_nil)))
    (ss_cons (ss_set (i := 2) sc_parting.nd rfl (Or.inl rfl) (se_tup (sa_cons (se_call (fn_pure G_start_of) rfl tk (hr.mono (by decide)) D_start_of.m D_start_of.F.kp D_start_of.b (sa_cons (se_var (pv 0)) (sa_nil)) (len_cons len_nil)) (sa_cons (se_call (fn_pure G_start_of) rfl tk (hr.mono (by decide)) D_start_of.m D_start_of.F.kp D_start_of.b (sa_cons (se_var (pv 1)) (sa_nil)) (len_cons len_nil)) (sa_nil)))))
    (ss_cons (ss_par2s (i := 3) (j := 4) rfl sc_parting.nd (sa_cons (se_dct1 (hu9 hr) (se_var (pv 2)) (se_non)) (sa_cons (se_lst (m := false) (sa_cons (se_var (pv 2)) (sa_nil))) (sa_nil))) (by decide))
    (ss_cons (ss_while 20000000 (passes_of rfl) (st_cmp (opr_ne hr) ok_ne (se_var (pv 4)) (se_lst (m := false) (sa_nil))) (ss_cons (ss_set (i := 5) sc_parting.nd rfl (Or.inl rfl) (se_lst (m := true) (sa_nil)))
    (ss_cons (ss_forD (passes_of rfl) rfl (se_var (pv 4)) (sg_name (pg_name (i := 6) sc_parting.nd rfl (Or.inl rfl))) (ss_one (ss_for (passes_of rfl) rfl (si_seq (se_tup (sa_cons (se_int) (sa_cons (se_int) (sa_nil))))) (sg_name (pg_name (i := 7) sc_parting.nd rfl (Or.inl rfl))) (ss_cons (ss_par2s (i := 8) (j := 9) rfl sc_parting.nd (sa_cons (se_call (fn_pure G_after) rfl tk (hr.mono (by decide)) D_after.m D_after.F.kp D_after.b (sa_cons (se_var (pv 0)) (sa_cons (se_ix ixr ok_ix (se_var (pv 6)) (se_int)) (sa_cons (se_var (pv 7)) (sa_nil)))) (len_cons (len_cons (len_cons len_nil)))) (sa_cons (se_call (fn_pure G_after) rfl tk (hr.mono (by decide)) D_after.m D_after.F.kp D_after.b (sa_cons (se_var (pv 1)) (sa_cons (se_ix ixr ok_ix (se_var (pv 6)) (se_int)) (sa_cons (se_var (pv 7)) (sa_nil)))) (len_cons (len_cons (len_cons len_nil)))) (sa_nil))) (by decide))
    (ss_cons (ss_if (st_cmp (opr_ne hr) ok_ne (se_ix ixr ok_ix (se_var (pv 8)) (se_int)) (se_ix ixr ok_ix (se_var (pv 9)) (se_int))) (ss_one (ss_ret (se_bin opr_add (ok_add (m := false)) (se_call G_row_to rfl tk (hr.mono (by decide)) D_row_to.m D_row_to.F.kp D_row_to.b (sa_cons (se_var (pv 3)) (sa_cons (se_var (pv 6)) (sa_nil))) (len_cons (len_cons len_nil))) (se_lst (m := false) (sa_cons (se_var (pv 7)) (sa_nil)))))) (ss_nil))
    (ss_cons (ss_set (i := 10) sc_parting.nd rfl (Or.inl rfl) (se_tup (sa_cons (se_call (fn_pure G_settled) rfl tk (hr.mono (by decide)) D_settled.m D_settled.F.kp D_settled.b (sa_cons (se_var (pv 0)) (sa_cons (se_ix ixr ok_ix (se_var (pv 8)) (se_int)) (sa_nil))) (len_cons (len_cons len_nil))) (sa_cons (se_call (fn_pure G_settled) rfl tk (hr.mono (by decide)) D_settled.m D_settled.F.kp D_settled.b (sa_cons (se_var (pv 1)) (sa_cons (se_ix ixr ok_ix (se_var (pv 9)) (se_int)) (sa_nil))) (len_cons (len_cons len_nil))) (sa_nil)))))
    (ss_one (ss_if (st_bool (sw_and (st_cmp opr_is ok_is (se_ix ixr ok_ix (se_var (pv 8)) (se_int)) (se_non)) (sw_and1 (st_cmp (op_ninX (hu9 hr)) ok_ninX (se_var (pv 10)) (se_var (pv 3)))))) (ss_cons (ss_setX (hu9 hr) (se_tup (sa_cons (se_var (pv 6)) (sa_cons (se_var (pv 7)) (sa_nil)))) (se_var (pv 3)) (se_var (pv 10)))
    (ss_one (ss_expr (se_append (se_var (pv 5)) (sa_cons (se_var (pv 10)) (sa_nil)))))) (ss_nil)))))))))
    (ss_one (ss_set (i := 4) sc_parting.nd rfl (Or.inl rfl) (se_var (pv 5)))))))
    (ss_one (ss_ret (se_non)))))))
abbrev s_chance : Stmt := top 31
theorem sc_chance : FnScope ["form", "point", "found", "level"] ["form", "point"] (defScope s_chance) := ⟨rfl, rfl, rfl, by decide +kernel, rfl, by decide +kernel, by decide +kernel⟩
theorem ok_chance {f : Addr} {fd : FuncData} (F : Fun K "chance" "chance" s_chance f fd) (T : TX mg) {a_need_form : Addr} {fd_need_form : FuncData} (D_need_form : Df K mg "need_form" s_need_form ["value"] a_need_form fd_need_form) (G_need_form : FnOk P w K mg base (L2.CX P w) 4 a_need_form fd_need_form ["value"] (spOf ⟨P, w, K⟩ xm 1 f_need_form)) {a_lowest : Addr} {fd_lowest : FuncData} (D_lowest : Df K mg "lowest" s_lowest ["numerator", "denominator"] a_lowest fd_lowest) (G_lowest : FnOk P w K mg base (L2.CX P w) 1 a_lowest fd_lowest ["numerator", "denominator"] (spOf ⟨P, w, K⟩ xm 2 f_lowest)) {a_round_of : Addr} {fd_round_of : FuncData} (D_round_of : Df K mg "round_of" s_round_of ["level", "chance"] a_round_of fd_round_of) (G_round_of : FnOk P w K mg base (L2.CX P w) 4 a_round_of fd_round_of ["level", "chance"] (spOf ⟨P, w, K⟩ xm 2 f_round_of)) {a_need_chance : Addr} {fd_need_chance : FuncData} (D_need_chance : Df K mg "need_chance" s_need_chance ["value"] a_need_chance fd_need_chance) (G_need_chance : FnOk P w K mg base (L2.CX P w) 2 a_need_chance fd_need_chance ["value"] (spOf ⟨P, w, K⟩ xm 1 f_need_chance)) : FnOk P w K mg base (L2.CX P w) 5 f fd ["form", "point"] (spOf ⟨P, w, K⟩ xm 2 f_chance) :=
  fn_ok (N := ["form", "point", "found", "level"]) (m := false) (b := b_chance) xm F sc_chance fun cdv A outer s H E W hr tk =>
    ss_cons (ss_expr (se_call (fn_pure G_need_form) rfl tk (hr.mono (by decide)) D_need_form.m D_need_form.F.kp D_need_form.b (sa_cons (se_var (pv 0)) (sa_nil)) (len_cons len_nil)))
    (ss_cons (ss_expr (se_call (fn_pure G_need_chance) rfl tk (hr.mono (by decide)) D_need_chance.m D_need_chance.F.kp D_need_chance.b (sa_cons (se_var (pv 1)) (sa_nil)) (len_cons len_nil)))
    (ss_cons (ss_set (i := 2) sc_chance.nd rfl (Or.inl rfl) (se_call (fn_pure G_lowest) rfl tk (hr.mono (by decide)) D_lowest.m D_lowest.F.kp D_lowest.b (sa_cons (se_ix ixr ok_ix (se_var (pv 1)) (se_int)) (sa_cons (se_ix ixr ok_ix (se_var (pv 1)) (se_int)) (sa_nil))) (len_cons (len_cons len_nil))))
    (ss_cons (ss_for (passes_of rfl) rfl (si_seq (se_var (pv 0))) (sg_name (pg_name (i := 3) sc_chance.nd rfl (Or.inl rfl))) (ss_one (ss_set (i := 2) sc_chance.nd rfl (Or.inl rfl) (se_ix ixr ok_ix (se_call (fn_pure G_round_of) rfl tk (hr.mono (by decide)) D_round_of.m D_round_of.F.kp D_round_of.b (sa_cons (se_var (pv 3)) (sa_cons (se_var (pv 2)) (sa_nil))) (len_cons (len_cons len_nil))) (se_int)))))
    (ss_one (ss_ret (se_var (pv 2)))))))
abbrev s_expectation : Stmt := top 32
theorem sc_expectation : FnScope ["form", "point", "found", "many", "level", "units"] ["form", "point"] (defScope s_expectation) := ⟨rfl, rfl, rfl, by decide +kernel, rfl, by decide +kernel, by decide +kernel⟩
theorem ok_expectation {f : Addr} {fd : FuncData} (F : Fun K "expectation" "expectation" s_expectation f fd) (T : TX mg) {a_need_form : Addr} {fd_need_form : FuncData} (D_need_form : Df K mg "need_form" s_need_form ["value"] a_need_form fd_need_form) (G_need_form : FnOk P w K mg base (L2.CX P w) 4 a_need_form fd_need_form ["value"] (spOf ⟨P, w, K⟩ xm 1 f_need_form)) {a_lowest : Addr} {fd_lowest : FuncData} (D_lowest : Df K mg "lowest" s_lowest ["numerator", "denominator"] a_lowest fd_lowest) (G_lowest : FnOk P w K mg base (L2.CX P w) 1 a_lowest fd_lowest ["numerator", "denominator"] (spOf ⟨P, w, K⟩ xm 2 f_lowest)) {a_times : Addr} {fd_times : FuncData} (D_times : Df K mg "times" s_times ["one", "two"] a_times fd_times) (G_times : FnOk P w K mg base (L2.CX P w) 2 a_times fd_times ["one", "two"] (spOf ⟨P, w, K⟩ xm 2 f_times)) {a_round_of : Addr} {fd_round_of : FuncData} (D_round_of : Df K mg "round_of" s_round_of ["level", "chance"] a_round_of fd_round_of) (G_round_of : FnOk P w K mg base (L2.CX P w) 4 a_round_of fd_round_of ["level", "chance"] (spOf ⟨P, w, K⟩ xm 2 f_round_of)) {a_need_chance : Addr} {fd_need_chance : FuncData} (D_need_chance : Df K mg "need_chance" s_need_chance ["value"] a_need_chance fd_need_chance) (G_need_chance : FnOk P w K mg base (L2.CX P w) 2 a_need_chance fd_need_chance ["value"] (spOf ⟨P, w, K⟩ xm 1 f_need_chance)) : FnOk P w K mg base (L2.CX P w) 5 f fd ["form", "point"] (spOf ⟨P, w, K⟩ xm 2 f_expectation) :=
  fn_ok (N := ["form", "point", "found", "many", "level", "units"]) (m := false) (b := b_expectation) xm F sc_expectation fun cdv A outer s H E W hr tk =>
    ss_cons (ss_expr (se_call (fn_pure G_need_form) rfl tk (hr.mono (by decide)) D_need_form.m D_need_form.F.kp D_need_form.b (sa_cons (se_var (pv 0)) (sa_nil)) (len_cons len_nil)))
    (ss_cons (ss_expr (se_call (fn_pure G_need_chance) rfl tk (hr.mono (by decide)) D_need_chance.m D_need_chance.F.kp D_need_chance.b (sa_cons (se_var (pv 1)) (sa_nil)) (len_cons len_nil)))
    (ss_cons (ss_par2s (i := 2) (j := 3) rfl sc_expectation.nd (sa_cons (se_call (fn_pure G_lowest) rfl tk (hr.mono (by decide)) D_lowest.m D_lowest.F.kp D_lowest.b (sa_cons (se_ix ixr ok_ix (se_var (pv 1)) (se_int)) (sa_cons (se_ix ixr ok_ix (se_var (pv 1)) (se_int)) (sa_nil))) (len_cons (len_cons len_nil))) (sa_cons (se_tup (sa_cons (se_int) (sa_cons (se_int) (sa_nil)))) (sa_nil))) (by decide))
    (ss_cons (ss_for (passes_of rfl) rfl (si_seq (se_var (pv 0))) (sg_name (pg_name (i := 4) sc_expectation.nd rfl (Or.inl rfl))) (ss_cons (ss_asgT (sg_tup (n := 2) (sgs_cons (pg_name (i := 2) sc_expectation.nd rfl (Or.inl rfl)) (sgs_cons (pg_name (i := 5) sc_expectation.nd rfl (Or.inl rfl)) (sgs_nil))) rfl rfl) (se_call (fn_pure G_round_of) rfl tk (hr.mono (by decide)) D_round_of.m D_round_of.F.kp D_round_of.b (sa_cons (se_var (pv 4)) (sa_cons (se_var (pv 2)) (sa_nil))) (len_cons (len_cons len_nil))))
    (ss_one (ss_set (i := 3) sc_expectation.nd rfl (Or.inl rfl) (se_call (fn_pure G_times) rfl tk (hr.mono (by decide)) D_times.m D_times.F.kp D_times.b (sa_cons (se_var (pv 3)) (sa_cons (se_var (pv 5)) (sa_nil))) (len_cons (len_cons len_nil)))))))
    (ss_one (ss_ret (se_var (pv 3)))))))
abbrev s_shortest : Stmt := top 37
theorem sc_shortest : FnScope ["form", "many", "level"] ["form"] (defScope s_shortest) := ⟨rfl, rfl, rfl, by decide +kernel, rfl, by decide +kernel, by decide +kernel⟩
theorem ok_shortest {f : Addr} {fd : FuncData} (F : Fun K "shortest" "shortest" s_shortest f fd) (T : TX mg) {a_need_form : Addr} {fd_need_form : FuncData} (D_need_form : Df K mg "need_form" s_need_form ["value"] a_need_form fd_need_form) (G_need_form : FnOk P w K mg base (L2.CX P w) 4 a_need_form fd_need_form ["value"] (spOf ⟨P, w, K⟩ xm 1 f_need_form)) {a_least_units : Addr} {fd_least_units : FuncData} (D_least_units : Df K mg "least_units" s_least_units ["level"] a_least_units fd_least_units) (G_least_units : FnOk P w K mg base (L2.CX P w) 1 a_least_units fd_least_units ["level"] (spOf ⟨P, w, K⟩ xm 1 f_least_units)) : FnOk P w K mg base (L2.CX P w) 5 f fd ["form"] (spOf ⟨P, w, K⟩ xm 1 f_shortest) :=
  fn_ok (N := ["form", "many", "level"]) (m := false) (b := b_shortest) xm F sc_shortest fun cdv A outer s H E W hr tk =>
    ss_cons (ss_expr (se_call (fn_pure G_need_form) rfl tk (hr.mono (by decide)) D_need_form.m D_need_form.F.kp D_need_form.b (sa_cons (se_var (pv 0)) (sa_nil)) (len_cons len_nil)))
    (ss_cons (ss_set (i := 1) sc_shortest.nd rfl (Or.inl rfl) (se_int))
    (ss_cons (ss_for (passes_of rfl) rfl (si_seq (se_var (pv 0))) (sg_name (pg_name (i := 2) sc_shortest.nd rfl (Or.inl rfl))) (ss_one (ss_aug (i := 1) sc_shortest.nd rfl (Or.inl rfl) opr_imul ok_mulI (se_call (fn_pure G_least_units) rfl tk (hr.mono (by decide)) D_least_units.m D_least_units.F.kp D_least_units.b (sa_cons (se_var (pv 2)) (sa_nil)) (len_cons len_nil)))))
    (ss_one (ss_ret (se_var (pv 1))))))
abbrev s_longest : Stmt := top 38
theorem sc_longest : FnScope ["form", "many", "level", "units"] ["form"] (defScope s_longest) := ⟨rfl, rfl, rfl, by decide +kernel, rfl, by decide +kernel, by decide +kernel⟩
theorem ok_longest {f : Addr} {fd : FuncData} (F : Fun K "longest" "longest" s_longest f fd) (T : TX mg) {a_need_form : Addr} {fd_need_form : FuncData} (D_need_form : Df K mg "need_form" s_need_form ["value"] a_need_form fd_need_form) (G_need_form : FnOk P w K mg base (L2.CX P w) 4 a_need_form fd_need_form ["value"] (spOf ⟨P, w, K⟩ xm 1 f_need_form)) {a_most_units : Addr} {fd_most_units : FuncData} (D_most_units : Df K mg "most_units" s_most_units ["level"] a_most_units fd_most_units) (G_most_units : FnOk P w K mg base (L2.CX P w) 3 a_most_units fd_most_units ["level"] (spOf ⟨P, w, K⟩ xm 1 f_most_units)) : FnOk P w K mg base (L2.CX P w) 5 f fd ["form"] (spOf ⟨P, w, K⟩ xm 1 f_longest) :=
  fn_ok (N := ["form", "many", "level", "units"]) (m := false) (b := b_longest) xm F sc_longest fun cdv A outer s H E W hr tk =>
    ss_cons (ss_expr (se_call (fn_pure G_need_form) rfl tk (hr.mono (by decide)) D_need_form.m D_need_form.F.kp D_need_form.b (sa_cons (se_var (pv 0)) (sa_nil)) (len_cons len_nil)))
    (ss_cons (ss_set (i := 1) sc_longest.nd rfl (Or.inl rfl) (se_int))
    (ss_cons (ss_for (passes_of rfl) rfl (si_seq (se_var (pv 0))) (sg_name (pg_name (i := 2) sc_longest.nd rfl (Or.inl rfl))) (ss_cons (ss_set (i := 3) sc_longest.nd rfl (Or.inl rfl) (se_call (fn_pure G_most_units) rfl tk (hr.mono (by decide)) D_most_units.m D_most_units.F.kp D_most_units.b (sa_cons (se_var (pv 2)) (sa_nil)) (len_cons len_nil)))
    (ss_cons (ss_if (st_cmp opr_is ok_is (se_var (pv 3)) (se_non)) (ss_one (ss_ret (se_non))) (ss_nil))
    (ss_one (ss_aug (i := 1) sc_longest.nd rfl (Or.inl rfl) opr_imul ok_mulI (se_var (pv 3)))))))
    (ss_one (ss_ret (se_var (pv 1))))))
abbrev s_surplus : Stmt := top 41
theorem sc_surplus : FnScope ["form", "found"] ["form"] (defScope s_surplus) := ⟨rfl, rfl, rfl, by decide +kernel, rfl, by decide +kernel, by decide +kernel⟩
theorem ok_surplus {f : Addr} {fd : FuncData} (F : Fun K "surplus" "surplus" s_surplus f fd) (T : TX mg) {a_need_form : Addr} {fd_need_form : FuncData} (D_need_form : Df K mg "need_form" s_need_form ["value"] a_need_form fd_need_form) (G_need_form : FnOk P w K mg base (L2.CX P w) 4 a_need_form fd_need_form ["value"] (spOf ⟨P, w, K⟩ xm 1 f_need_form)) {a_surpluses : Addr} {fd_surpluses : FuncData} (D_surpluses : Df K mg "surpluses" s_surpluses ["form"] a_surpluses fd_surpluses) (G_surpluses : FnOk P w K mg base (L2.CX P w) 4 a_surpluses fd_surpluses ["form"] (spOf ⟨P, w, K⟩ xm 1 f_surpluses)) : FnOk P w K mg base (L2.CX P w) 5 f fd ["form"] (spOf ⟨P, w, K⟩ xm 1 f_surplus) :=
  fn_ok (N := ["form", "found"]) (m := false) (b := b_surplus) xm F sc_surplus fun cdv A outer s H E W hr tk =>
    ss_cons (ss_expr (se_call (fn_pure G_need_form) rfl tk (hr.mono (by decide)) D_need_form.m D_need_form.F.kp D_need_form.b (sa_cons (se_var (pv 0)) (sa_nil)) (len_cons len_nil)))
    (ss_cons (ss_set (i := 1) sc_surplus.nd rfl (Or.inl rfl) (se_call (fn_pure G_surpluses) rfl tk (hr.mono (by decide)) D_surpluses.m D_surpluses.F.kp D_surpluses.b (sa_cons (se_var (pv 0)) (sa_nil)) (len_cons len_nil)))
    (ss_one (ss_ret (se_if (st_cmp opr_is ok_is (se_var (pv 1)) (se_non)) (se_non) (se_ix ixr ok_ix (se_ix ixr ok_ix (se_ix ixr ok_ix (se_var (pv 1)) (se_un un_neg ok_neg (se_int))) (se_int)) (se_int))))))
abbrev s__law_all : Stmt := top 47
theorem sc__law_all : FnScope ["_law_form_here", "_law_point"] ["_law_form_here", "_law_point"] (defScope s__law_all) := ⟨rfl, rfl, rfl, by decide +kernel, rfl, by decide +kernel, by decide +kernel⟩
theorem ok__law_all {f : Addr} {fd : FuncData} (F : Fun K "_law_all" "_law_all" s__law_all f fd) (T : TX mg) {a_chance : Addr} {fd_chance : FuncData} (D_chance : Df K mg "chance" s_chance ["form", "point"] a_chance fd_chance) (G_chance : FnOk P w K mg base (L2.CX P w) 5 a_chance fd_chance ["form", "point"] (spOf ⟨P, w, K⟩ xm 2 f_chance)) {a_expectation : Addr} {fd_expectation : FuncData} (D_expectation : Df K mg "expectation" s_expectation ["form", "point"] a_expectation fd_expectation) (G_expectation : FnOk P w K mg base (L2.CX P w) 5 a_expectation fd_expectation ["form", "point"] (spOf ⟨P, w, K⟩ xm 2 f_expectation)) {a_shortest : Addr} {fd_shortest : FuncData} (D_shortest : Df K mg "shortest" s_shortest ["form"] a_shortest fd_shortest) (G_shortest : FnOk P w K mg base (L2.CX P w) 5 a_shortest fd_shortest ["form"] (spOf ⟨P, w, K⟩ xm 1 f_shortest)) {a_longest : Addr} {fd_longest : FuncData} (D_longest : Df K mg "longest" s_longest ["form"] a_longest fd_longest) (G_longest : FnOk P w K mg base (L2.CX P w) 5 a_longest fd_longest ["form"] (spOf ⟨P, w, K⟩ xm 1 f_longest)) {a_surplus : Addr} {fd_surplus : FuncData} (D_surplus : Df K mg "surplus" s_surplus ["form"] a_surplus fd_surplus) (G_surplus : FnOk P w K mg base (L2.CX P w) 5 a_surplus fd_surplus ["form"] (spOf ⟨P, w, K⟩ xm 1 f_surplus)) : FnOk P w K mg base (L2.CX P w) 6 f fd ["_law_form_here", "_law_point"] (spOf ⟨P, w, K⟩ xm 2 f__law_all) :=
  fn_ok (N := ["_law_form_here", "_law_point"]) (m := false) (b := b__law_all) xm F sc__law_all fun cdv A outer s H E W hr tk =>
    ss_one (ss_ret (se_lst (m := false) (sa_cons (se_call (fn_pure G_shortest) rfl tk (hr.mono (by decide)) D_shortest.m D_shortest.F.kp D_shortest.b (sa_cons (se_var (pv 0)) (sa_nil)) (len_cons len_nil)) (sa_cons (se_call (fn_pure G_longest) rfl tk (hr.mono (by decide)) D_longest.m D_longest.F.kp D_longest.b (sa_cons (se_var (pv 0)) (sa_nil)) (len_cons len_nil)) (sa_cons (se_call (fn_pure G_surplus) rfl tk (hr.mono (by decide)) D_surplus.m D_surplus.F.kp D_surplus.b (sa_cons (se_var (pv 0)) (sa_nil)) (len_cons len_nil)) (sa_cons (se_call (fn_pure G_chance) rfl tk (hr.mono (by decide)) D_chance.m D_chance.F.kp D_chance.b (sa_cons (se_var (pv 0)) (sa_cons (se_var (pv 1)) (sa_nil))) (len_cons (len_cons len_nil))) (sa_cons (se_call (fn_pure G_expectation) rfl tk (hr.mono (by decide)) D_expectation.m D_expectation.F.kp D_expectation.b (sa_cons (se_var (pv 0)) (sa_cons (se_var (pv 1)) (sa_nil))) (len_cons (len_cons len_nil))) (sa_nil))))))))
abbrev s_law : Stmt := top 50
theorem sc_law : FnScope ["_law_script", "_law_town", "_law_form_here", "_law_bottom", "_law_point", "_law_other", "_law_due", "_law_wide", "_law_target", "_law_best", "_law_level_here"] ["_law_script"] (defScope s_law) := ⟨rfl, rfl, rfl, by decide +kernel, rfl, by decide +kernel, by decide +kernel⟩
theorem ok_law {f : Addr} {fd : FuncData} (F : Fun K "law" "law" s_law f fd) (T : TX mg) {a_parting : Addr} {fd_parting : FuncData} (D_parting : Df K mg "parting" s_parting ["form", "other"] a_parting fd_parting) (G_parting : FnOk P w K mg base (L2.CX P w) 5 a_parting fd_parting ["form", "other"] (spOf ⟨P, w, K⟩ xm 2 f_parting)) {a_shortest : Addr} {fd_shortest : FuncData} (D_shortest : Df K mg "shortest" s_shortest ["form"] a_shortest fd_shortest) (G_shortest : FnOk P w K mg base (L2.CX P w) 5 a_shortest fd_shortest ["form"] (spOf ⟨P, w, K⟩ xm 1 f_shortest)) {a_longest : Addr} {fd_longest : FuncData} (D_longest : Df K mg "longest" s_longest ["form"] a_longest fd_longest) (G_longest : FnOk P w K mg base (L2.CX P w) 5 a_longest fd_longest ["form"] (spOf ⟨P, w, K⟩ xm 1 f_longest)) {a__law_draw : Addr} {fd__law_draw : FuncData} (D__law_draw : Df K mg "_law_draw" s__law_draw ["_law_script", "_law_town", "_law_many"] a__law_draw fd__law_draw) (G__law_draw : FnOk P w K mg base (L2.CX P w) 1 a__law_draw fd__law_draw ["_law_script", "_law_town", "_law_many"] (spOf ⟨P, w, K⟩ xm 3 f__law_draw)) {a__law_form : Addr} {fd__law_form : FuncData} (D__law_form : Df K mg "_law_form" s__law_form ["_law_script", "_law_town"] a__law_form fd__law_form) (G__law_form : FnOk P w K mg base (L2.CX P w) 4 a__law_form fd__law_form ["_law_script", "_law_town"] (spOf ⟨P, w, K⟩ xm 2 f__law_form)) {a__law_all : Addr} {fd__law_all : FuncData} (D__law_all : Df K mg "_law_all" s__law_all ["_law_form_here", "_law_point"] a__law_all fd__law_all) (G__law_all : FnOk P w K mg base (L2.CX P w) 6 a__law_all fd__law_all ["_law_form_here", "_law_point"] (spOf ⟨P, w, K⟩ xm 2 f__law_all)) {a__law_written : Addr} {fd__law_written : FuncData} (D__law_written : Df K mg "_law_written" s__law_written ["_law_script", "_law_town", "_law_level_here"] a__law_written fd__law_written) (G__law_written : FnOk P w K mg base (L2.CX P w) 3 a__law_written fd__law_written ["_law_script", "_law_town", "_law_level_here"] (spOf ⟨P, w, K⟩ xm 3 f__law_written)) {a__law_wider : Addr} {fd__law_wider : FuncData} (D__law_wider : Df K mg "_law_wider" s__law_wider ["_law_script", "_law_town", "_law_form_here"] a__law_wider fd__law_wider) (G__law_wider : FnOk P w K mg base (L2.CX P w) 3 a__law_wider fd__law_wider ["_law_script", "_law_town", "_law_form_here"] (spOf ⟨P, w, K⟩ xm 3 f__law_wider)) : FnOk P w K mg base (L2.CX P w) 7 f fd ["_law_script"] (spOf ⟨P, w, K⟩ xm 1 f_law) :=
  fn_ok (N := ["_law_script", "_law_town", "_law_form_here", "_law_bottom", "_law_point", "_law_other", "_law_due", "_law_wide", "_law_target", "_law_best", "_law_level_here"]) (m := false) (b := b_law) xm F sc_law fun cdv A outer s H E W hr tk =>
    ss_cons (ss_set (i := 1) sc_law.nd rfl (Or.inr rfl) (se_lst (m := true) (sa_cons (se_int) (sa_cons (se_int) (sa_nil)))))
    (ss_cons (ss_set (i := 2) sc_law.nd rfl (Or.inl rfl) (se_call G__law_form rfl tk (hr.mono (by decide)) D__law_form.m D__law_form.F.kp D__law_form.b (sa_cons (se_var (pv 0)) (sa_cons (se_var (pv 1)) (sa_nil))) (len_cons (len_cons len_nil))))
    (ss_cons (ss_set (i := 3) sc_law.nd rfl (Or.inl rfl) (se_bin opr_add (ok_add (m := false)) (se_int) (se_call G__law_draw rfl tk (hr.mono (by decide)) D__law_draw.m D__law_draw.F.kp D__law_draw.b (sa_cons (se_var (pv 0)) (sa_cons (se_var (pv 1)) (sa_cons (se_int) (sa_nil)))) (len_cons (len_cons (len_cons len_nil))))))
    (ss_cons (ss_set (i := 4) sc_law.nd rfl (Or.inl rfl) (se_tup (sa_cons (se_call G__law_draw rfl tk (hr.mono (by decide)) D__law_draw.m D__law_draw.F.kp D__law_draw.b (sa_cons (se_var (pv 0)) (sa_cons (se_var (pv 1)) (sa_cons (se_bin opr_add (ok_add (m := false)) (se_var (pv 3)) (se_int)) (sa_nil)))) (len_cons (len_cons (len_cons len_nil)))) (sa_cons (se_var (pv 3)) (sa_nil)))))
    (ss_cons (ss_set (i := 5) sc_law.nd rfl (Or.inl rfl) (se_callTy call_tuple_of ok_tuple (sa_cons (se_lc (m := false) (own := [("_law_level_here", 10)]) rfl sc_law.nd (blkOk_by (N := ["_law_script", "_law_town", "_law_form_here", "_law_bottom", "_law_point", "_law_other", "_law_due", "_law_wide", "_law_target", "_law_best", "_law_level_here"]) (sc := defScope s_law) (by decide +kernel)) (by decide) (si_seq (se_var (pv 2))) (fun _ _ _ _ _ => pg_name (i := 10) sc_law.nd rfl (Or.inl rfl)) tgk_name (fun _ _ _ _ _ => spt_nil) (fun _ _ _ _ _ => se_call G__law_written rfl takes0 (hr.mono (by decide)) D__law_written.m D__law_written.F.kp D__law_written.b (sa_cons (se_var (pv 0)) (sa_cons (se_var (pv 1)) (sa_cons (se_var (pv 10)) (sa_nil)))) (len_cons (len_cons (len_cons len_nil))))) (sa_nil)) rfl T.n_tuple bt_tuple))
    (ss_cons (ss_set (i := 6) sc_law.nd rfl (Or.inl rfl) (se_call (fn_pure G__law_all) rfl tk (hr.mono (by decide)) D__law_all.m D__law_all.F.kp D__law_all.b (sa_cons (se_var (pv 2)) (sa_cons (se_var (pv 4)) (sa_nil))) (len_cons (len_cons len_nil))))
    (ss_cons (ss_if (st_bool (sw_or (st_cmp opr_isN ok_isN (se_call (fn_pure G_parting) rfl tk (hr.mono (by decide)) D_parting.m D_parting.F.kp D_parting.b (sa_cons (se_var (pv 2)) (sa_cons (se_var (pv 5)) (sa_nil))) (len_cons (len_cons len_nil))) (se_non)) (sw_or1 (st_cmp (opr_ne hr) ok_ne (se_call (fn_pure G__law_all) rfl tk (hr.mono (by decide)) D__law_all.m D__law_all.F.kp D__law_all.b (sa_cons (se_var (pv 5)) (sa_cons (se_var (pv 4)) (sa_nil))) (len_cons (len_cons len_nil))) (se_var (pv 6)))))) (ss_one (ss_ret (se_bl))) (ss_nil))
    (ss_cons (ss_if (st_cmp (opr_lt hr) ok_lt (se_callB call_len ok_len (sa_cons (se_var (pv 2)) (sa_nil)) rfl T.n_len bt_len) (se_int)) (ss_cons (ss_set (i := 7) sc_law.nd rfl (Or.inl rfl) (se_call G__law_wider rfl tk (hr.mono (by decide)) D__law_wider.m D__law_wider.F.kp D__law_wider.b (sa_cons (se_var (pv 0)) (sa_cons (se_var (pv 1)) (sa_cons (se_var (pv 2)) (sa_nil)))) (len_cons (len_cons (len_cons len_nil)))))
    (ss_cons (ss_if (st_bool (sw_or (st_cmp opr_isN ok_isN (se_call (fn_pure G_parting) rfl tk (hr.mono (by decide)) D_parting.m D_parting.F.kp D_parting.b (sa_cons (se_var (pv 2)) (sa_cons (se_var (pv 7)) (sa_nil))) (len_cons (len_cons len_nil))) (se_non)) (sw_or1 (st_cmp opr_isN ok_isN (se_call (fn_pure G_parting) rfl tk (hr.mono (by decide)) D_parting.m D_parting.F.kp D_parting.b (sa_cons (se_var (pv 7)) (sa_cons (se_var (pv 2)) (sa_nil))) (len_cons (len_cons len_nil))) (se_non))))) (ss_one (ss_ret (se_bl))) (ss_nil))
    (ss_one (ss_if (st_cmp (opr_ne hr) ok_ne (se_call (fn_pure G__law_all) rfl tk (hr.mono (by decide)) D__law_all.m D__law_all.F.kp D__law_all.b (sa_cons (se_var (pv 7)) (sa_cons (se_var (pv 4)) (sa_nil))) (len_cons (len_cons len_nil))) (se_var (pv 6))) (ss_one (ss_ret (se_bl))) (ss_nil))))) (ss_nil))
    (ss_cons (ss_set (i := 8) sc_law.nd rfl (Or.inl rfl) (se_bin opr_add (ok_add (m := false)) (se_int) (se_call G__law_draw rfl tk (hr.mono (by decide)) D__law_draw.m D__law_draw.F.kp D__law_draw.b (sa_cons (se_var (pv 0)) (sa_cons (se_var (pv 1)) (sa_cons (se_int) (sa_nil)))) (len_cons (len_cons (len_cons len_nil))))))
    (ss_cons (ss_set (i := 9) sc_law.nd rfl (Or.inl rfl) (se_tup (sa_cons (se_tup (sa_cons (se_var (pv 8)) (sa_cons (se_int) (sa_cons (se_non) (sa_nil))))) (sa_nil))))
    (ss_cons (ss_if (st_cmp opr_isN ok_isN (se_call (fn_pure G_parting) rfl tk (hr.mono (by decide)) D_parting.m D_parting.F.kp D_parting.b (sa_cons (se_var (pv 9)) (sa_cons (se_tup (sa_cons (se_tup (sa_cons (se_var (pv 8)) (sa_cons (se_int) (sa_cons (se_var (pv 8)) (sa_nil))))) (sa_nil))) (sa_nil))) (len_cons (len_cons len_nil))) (se_non)) (ss_one (ss_ret (se_bl))) (ss_nil))
    (ss_cons (ss_if (st_bool (sw_and (st_cmp (opr_lt hr) ok_lt (se_var (pv 8)) (se_int)) (sw_and1 (st_cmp opr_is ok_is (se_call (fn_pure G_parting) rfl tk (hr.mono (by decide)) D_parting.m D_parting.F.kp D_parting.b (sa_cons (se_var (pv 9)) (sa_cons (se_tup (sa_cons (se_tup (sa_cons (se_bin opr_add (ok_add (m := false)) (se_var (pv 8)) (se_int)) (sa_cons (se_int) (sa_cons (se_non) (sa_nil))))) (sa_nil))) (sa_nil))) (len_cons (len_cons len_nil))) (se_non))))) (ss_one (ss_ret (se_bl))) (ss_nil))
    (ss_one (ss_ret (se_and (se_cmp (opr_eq hr) ok_eq (se_call (fn_pure G_longest) rfl tk (hr.mono (by decide)) D_longest.m D_longest.F.kp D_longest.b (sa_cons (se_var (pv 9)) (sa_nil)) (len_cons len_nil)) (se_bin op_sub ok_sub (se_bin opr_mul (ok_mul (m := false)) (se_int) (se_var (pv 8))) (se_int))) (se_one (se_cmp (opr_eq hr) ok_eq (se_call (fn_pure G_shortest) rfl tk (hr.mono (by decide)) D_shortest.m D_shortest.F.kp D_shortest.b (sa_cons (se_var (pv 9)) (sa_nil)) (len_cons len_nil)) (se_var (pv 8))))))))))))))))))
theorem all_mk {l : PySem.W.OpenLaw} {h : Heap} {fa : Addr} (X : K.In h) (G : h.Ns mainGlobals mg) (hfa : mg "law" = some (.ref fa)) {f1 : Addr} {od1 an1 : Option Addr} {sl1 : Array (Option Value)} {oc1 kV1 dc1 pm1 cd1 ct1 : Value} {f2 : Addr} {od2 an2 : Option Addr} {sl2 : Array (Option Value)} {oc2 kV2 dc2 pm2 cd2 ct2 : Value} {f3 : Addr} {od3 an3 : Option Addr} {sl3 : Array (Option Value)} {oc3 kV3 dc3 pm3 cd3 ct3 : Value} {f4 : Addr} {od4 an4 : Option Addr} {sl4 : Array (Option Value)} {oc4 kV4 dc4 pm4 cd4 ct4 : Value} {f5 : Addr} {od5 an5 : Option Addr} {sl5 : Array (Option Value)} {oc5 kV5 dc5 pm5 cd5 ct5 : Value} {f6 : Addr} {od6 an6 : Option Addr} {sl6 : Array (Option Value)} {oc6 kV6 dc6 pm6 cd6 ct6 : Value} {f7 : Addr} {od7 an7 : Option Addr} {sl7 : Array (Option Value)} {oc7 kV7 dc7 pm7 cd7 ct7 : Value} {f8 : Addr} {od8 an8 : Option Addr} {sl8 : Array (Option Value)} {oc8 kV8 dc8 pm8 cd8 ct8 : Value} {f9 : Addr} {od9 an9 : Option Addr} {sl9 : Array (Option Value)} {oc9 kV9 dc9 pm9 cd9 ct9 : Value} {f10 : Addr} {od10 an10 : Option Addr} {sl10 : Array (Option Value)} {oc10 kV10 dc10 pm10 cd10 ct10 : Value} {f11 : Addr} {od11 an11 : Option Addr} {sl11 : Array (Option Value)} {oc11 kV11 dc11 pm11 cd11 ct11 : Value} {f12 : Addr} {od12 an12 : Option Addr} {sl12 : Array (Option Value)} {oc12 kV12 dc12 pm12 cd12 ct12 : Value} {f13 : Addr} {od13 an13 : Option Addr} {sl13 : Array (Option Value)} {oc13 kV13 dc13 pm13 cd13 ct13 : Value} {f14 : Addr} {od14 an14 : Option Addr} {sl14 : Array (Option Value)} {oc14 kV14 dc14 pm14 cd14 ct14 : Value} {f15 : Addr} {od15 an15 : Option Addr} {sl15 : Array (Option Value)} {oc15 kV15 dc15 pm15 cd15 ct15 : Value} {f16 : Addr} {od16 an16 : Option Addr} {sl16 : Array (Option Value)} {oc16 kV16 dc16 pm16 cd16 ct16 : Value} {f17 : Addr} {od17 an17 : Option Addr} {sl17 : Array (Option Value)} {oc17 kV17 dc17 pm17 cd17 ct17 : Value} {f18 : Addr} {od18 an18 : Option Addr} {sl18 : Array (Option Value)} {oc18 kV18 dc18 pm18 cd18 ct18 : Value} {f19 : Addr} {od19 an19 : Option Addr} {sl19 : Array (Option Value)} {oc19 kV19 dc19 pm19 cd19 ct19 : Value} {f20 : Addr} {od20 an20 : Option Addr} {sl20 : Array (Option Value)} {oc20 kV20 dc20 pm20 cd20 ct20 : Value} {f21 : Addr} {od21 an21 : Option Addr} {sl21 : Array (Option Value)} {oc21 kV21 dc21 pm21 cd21 ct21 : Value} {f22 : Addr} {od22 an22 : Option Addr} {sl22 : Array (Option Value)} {oc22 kV22 dc22 pm22 cd22 ct22 : Value} {f23 : Addr} {od23 an23 : Option Addr} {sl23 : Array (Option Value)} {oc23 kV23 dc23 pm23 cd23 ct23 : Value} {f24 : Addr} {od24 an24 : Option Addr} {sl24 : Array (Option Value)} {oc24 kV24 dc24 pm24 cd24 ct24 : Value} {f25 : Addr} {od25 an25 : Option Addr} {sl25 : Array (Option Value)} {oc25 kV25 dc25 pm25 cd25 ct25 : Value} {f26 : Addr} {od26 an26 : Option Addr} {sl26 : Array (Option Value)} {oc26 kV26 dc26 pm26 cd26 ct26 : Value} {f27 : Addr} {od27 an27 : Option Addr} {sl27 : Array (Option Value)} {oc27 kV27 dc27 pm27 cd27 ct27 : Value} {f28 : Addr} {od28 an28 : Option Addr} {sl28 : Array (Option Value)} {oc28 kV28 dc28 pm28 cd28 ct28 : Value} {f29 : Addr} {od29 an29 : Option Addr} {sl29 : Array (Option Value)} {oc29 kV29 dc29 pm29 cd29 ct29 : Value} {f30 : Addr} {od30 an30 : Option Addr} {sl30 : Array (Option Value)} {oc30 kV30 dc30 pm30 cd30 ct30 : Value} {f31 : Addr} {od31 an31 : Option Addr} {sl31 : Array (Option Value)} {oc31 kV31 dc31 pm31 cd31 ct31 : Value} {f32 : Addr} {od32 an32 : Option Addr} {sl32 : Array (Option Value)} {oc32 kV32 dc32 pm32 cd32 ct32 : Value} {f33 : Addr} {od33 an33 : Option Addr} {sl33 : Array (Option Value)} {oc33 kV33 dc33 pm33 cd33 ct33 : Value} {f34 : Addr} {od34 an34 : Option Addr} {sl34 : Array (Option Value)} {oc34 kV34 dc34 pm34 cd34 ct34 : Value} {f35 : Addr} {od35 an35 : Option Addr} {sl35 : Array (Option Value)} {oc35 kV35 dc35 pm35 cd35 ct35 : Value} {f36 : Addr} {od36 an36 : Option Addr} {sl36 : Array (Option Value)} {oc36 kV36 dc36 pm36 cd36 ct36 : Value} {f37 : Addr} {od37 an37 : Option Addr} {sl37 : Array (Option Value)} {oc37 kV37 dc37 pm37 cd37 ct37 : Value} (a1 : PySem.W.nsIn K mainGlobals "is_count" = some (some (.ref f1))) (l1 : K.lookup f1 = some ⟨oc1, od1, .func (PySem.W.fnOf "is_count" "is_count" (defArgs s_is_count) (defBody s_is_count) (defScope s_is_count) .none kV1 dc1 pm1 an1 cd1 ct1), sl1⟩) (c1 : PySem.W.codeIn K cd1 "is_count" = true) (k1 : PySem.W.keepIn K (.ref f1) = true) (a2 : PySem.W.nsIn K mainGlobals "round_winner" = some (some (.ref f2))) (l2 : K.lookup f2 = some ⟨oc2, od2, .func (PySem.W.fnOf "round_winner" "round_winner" (defArgs s_round_winner) (defBody s_round_winner) (defScope s_round_winner) .none kV2 dc2 pm2 an2 cd2 ct2), sl2⟩) (c2 : PySem.W.codeIn K cd2 "round_winner" = true) (k2 : PySem.W.keepIn K (.ref f2) = true) (a3 : PySem.W.nsIn K mainGlobals "start_of" = some (some (.ref f3))) (l3 : K.lookup f3 = some ⟨oc3, od3, .func (PySem.W.fnOf "start_of" "start_of" (defArgs s_start_of) (defBody s_start_of) (defScope s_start_of) .none kV3 dc3 pm3 an3 cd3 ct3), sl3⟩) (c3 : PySem.W.codeIn K cd3 "start_of" = true) (k3 : PySem.W.keepIn K (.ref f3) = true) (a4 : PySem.W.nsIn K mainGlobals "plus" = some (some (.ref f4))) (l4 : K.lookup f4 = some ⟨oc4, od4, .func (PySem.W.fnOf "plus" "plus" (defArgs s_plus) (defBody s_plus) (defScope s_plus) .none kV4 dc4 pm4 an4 cd4 ct4), sl4⟩) (c4 : PySem.W.codeIn K cd4 "plus" = true) (k4 : PySem.W.keepIn K (.ref f4) = true) (a5 : PySem.W.nsIn K mainGlobals "settled" = some (some (.ref f5))) (l5 : K.lookup f5 = some ⟨oc5, od5, .func (PySem.W.fnOf "settled" "settled" (defArgs s_settled) (defBody s_settled) (defScope s_settled) .none kV5 dc5 pm5 an5 cd5 ct5), sl5⟩) (c5 : PySem.W.codeIn K cd5 "settled" = true) (k5 : PySem.W.keepIn K (.ref f5) = true) (a6 : PySem.W.nsIn K mainGlobals "row_to" = some (some (.ref f6))) (l6 : K.lookup f6 = some ⟨oc6, od6, .func (PySem.W.fnOf "row_to" "row_to" (defArgs s_row_to) (defBody s_row_to) (defScope s_row_to) .none kV6 dc6 pm6 an6 cd6 ct6), sl6⟩) (c6 : PySem.W.codeIn K cd6 "row_to" = true) (k6 : PySem.W.keepIn K (.ref f6) = true) (a7 : PySem.W.nsIn K mainGlobals "lowest" = some (some (.ref f7))) (l7 : K.lookup f7 = some ⟨oc7, od7, .func (PySem.W.fnOf "lowest" "lowest" (defArgs s_lowest) (defBody s_lowest) (defScope s_lowest) .none kV7 dc7 pm7 an7 cd7 ct7), sl7⟩) (c7 : PySem.W.codeIn K cd7 "lowest" = true) (k7 : PySem.W.keepIn K (.ref f7) = true) (a8 : PySem.W.nsIn K mainGlobals "power" = some (some (.ref f8))) (l8 : K.lookup f8 = some ⟨oc8, od8, .func (PySem.W.fnOf "power" "power" (defArgs s_power) (defBody s_power) (defScope s_power) .none kV8 dc8 pm8 an8 cd8 ct8), sl8⟩) (c8 : PySem.W.codeIn K cd8 "power" = true) (k8 : PySem.W.keepIn K (.ref f8) = true) (a9 : PySem.W.nsIn K mainGlobals "least_units" = some (some (.ref f9))) (l9 : K.lookup f9 = some ⟨oc9, od9, .func (PySem.W.fnOf "least_units" "least_units" (defArgs s_least_units) (defBody s_least_units) (defScope s_least_units) .none kV9 dc9 pm9 an9 cd9 ct9), sl9⟩) (c9 : PySem.W.codeIn K cd9 "least_units" = true) (k9 : PySem.W.keepIn K (.ref f9) = true) (a10 : PySem.W.nsIn K mainGlobals "_law_draw" = some (some (.ref f10))) (l10 : K.lookup f10 = some ⟨oc10, od10, .func (PySem.W.fnOf "_law_draw" "_law_draw" (defArgs s__law_draw) (defBody s__law_draw) (defScope s__law_draw) .none kV10 dc10 pm10 an10 cd10 ct10), sl10⟩) (c10 : PySem.W.codeIn K cd10 "_law_draw" = true) (k10 : PySem.W.keepIn K (.ref f10) = true) (a11 : PySem.W.nsIn K mainGlobals "is_level" = some (some (.ref f11))) (l11 : K.lookup f11 = some ⟨oc11, od11, .func (PySem.W.fnOf "is_level" "is_level" (defArgs s_is_level) (defBody s_is_level) (defScope s_is_level) .none kV11 dc11 pm11 an11 cd11 ct11), sl11⟩) (c11 : PySem.W.codeIn K cd11 "is_level" = true) (k11 : PySem.W.keepIn K (.ref f11) = true) (a12 : PySem.W.nsIn K mainGlobals "after" = some (some (.ref f12))) (l12 : K.lookup f12 = some ⟨oc12, od12, .func (PySem.W.fnOf "after" "after" (defArgs s_after) (defBody s_after) (defScope s_after) .none kV12 dc12 pm12 an12 cd12 ct12), sl12⟩) (c12 : PySem.W.codeIn K cd12 "after" = true) (k12 : PySem.W.keepIn K (.ref f12) = true) (a13 : PySem.W.nsIn K mainGlobals "times" = some (some (.ref f13))) (l13 : K.lookup f13 = some ⟨oc13, od13, .func (PySem.W.fnOf "times" "times" (defArgs s_times) (defBody s_times) (defScope s_times) .none kV13 dc13 pm13 an13 cd13 ct13), sl13⟩) (c13 : PySem.W.codeIn K cd13 "times" = true) (k13 : PySem.W.keepIn K (.ref f13) = true) (a14 : PySem.W.nsIn K mainGlobals "added" = some (some (.ref f14))) (l14 : K.lookup f14 = some ⟨oc14, od14, .func (PySem.W.fnOf "added" "added" (defArgs s_added) (defBody s_added) (defScope s_added) .none kV14 dc14 pm14 an14 cd14 ct14), sl14⟩) (c14 : PySem.W.codeIn K cd14 "added" = true) (k14 : PySem.W.keepIn K (.ref f14) = true) (a15 : PySem.W.nsIn K mainGlobals "ends_of" = some (some (.ref f15))) (l15 : K.lookup f15 = some ⟨oc15, od15, .func (PySem.W.fnOf "ends_of" "ends_of" (defArgs s_ends_of) (defBody s_ends_of) (defScope s_ends_of) .none kV15 dc15 pm15 an15 cd15 ct15), sl15⟩) (c15 : PySem.W.codeIn K cd15 "ends_of" = true) (k15 : PySem.W.keepIn K (.ref f15) = true) (a16 : PySem.W.nsIn K mainGlobals "need_chance" = some (some (.ref f16))) (l16 : K.lookup f16 = some ⟨oc16, od16, .func (PySem.W.fnOf "need_chance" "need_chance" (defArgs s_need_chance) (defBody s_need_chance) (defScope s_need_chance) .none kV16 dc16 pm16 an16 cd16 ct16), sl16⟩) (c16 : PySem.W.codeIn K cd16 "need_chance" = true) (k16 : PySem.W.keepIn K (.ref f16) = true) (a17 : PySem.W.nsIn K mainGlobals "rounds" = some (some (.ref f17))) (l17 : K.lookup f17 = some ⟨oc17, od17, .func (PySem.W.fnOf "rounds" "rounds" (defArgs s_rounds) (defBody s_rounds) (defScope s_rounds) .none kV17 dc17 pm17 an17 cd17 ct17), sl17⟩) (c17 : PySem.W.codeIn K cd17 "rounds" = true) (k17 : PySem.W.keepIn K (.ref f17) = true) (a18 : PySem.W.nsIn K mainGlobals "_law_pick" = some (some (.ref f18))) (l18 : K.lookup f18 = some ⟨oc18, od18, .func (PySem.W.fnOf "_law_pick" "_law_pick" (defArgs s__law_pick) (defBody s__law_pick) (defScope s__law_pick) .none kV18 dc18 pm18 an18 cd18 ct18), sl18⟩) (c18 : PySem.W.codeIn K cd18 "_law_pick" = true) (k18 : PySem.W.keepIn K (.ref f18) = true) (a19 : PySem.W.nsIn K mainGlobals "is_form" = some (some (.ref f19))) (l19 : K.lookup f19 = some ⟨oc19, od19, .func (PySem.W.fnOf "is_form" "is_form" (defArgs s_is_form) (defBody s_is_form) (defScope s_is_form) .none kV19 dc19 pm19 an19 cd19 ct19), sl19⟩) (c19 : PySem.W.codeIn K cd19 "is_form" = true) (k19 : PySem.W.keepIn K (.ref f19) = true) (a20 : PySem.W.nsIn K mainGlobals "walk" = some (some (.ref f20))) (l20 : K.lookup f20 = some ⟨oc20, od20, .func (PySem.W.fnOf "walk" "walk" (defArgs s_walk) (defBody s_walk) (defScope s_walk) .none kV20 dc20 pm20 an20 cd20 ct20), sl20⟩) (c20 : PySem.W.codeIn K cd20 "walk" = true) (k20 : PySem.W.keepIn K (.ref f20) = true) (a21 : PySem.W.nsIn K mainGlobals "most_units" = some (some (.ref f21))) (l21 : K.lookup f21 = some ⟨oc21, od21, .func (PySem.W.fnOf "most_units" "most_units" (defArgs s_most_units) (defBody s_most_units) (defScope s_most_units) .none kV21 dc21 pm21 an21 cd21 ct21), sl21⟩) (c21 : PySem.W.codeIn K cd21 "most_units" = true) (k21 : PySem.W.keepIn K (.ref f21) = true) (a22 : PySem.W.nsIn K mainGlobals "best_row" = some (some (.ref f22))) (l22 : K.lookup f22 = some ⟨oc22, od22, .func (PySem.W.fnOf "best_row" "best_row" (defArgs s_best_row) (defBody s_best_row) (defScope s_best_row) .none kV22 dc22 pm22 an22 cd22 ct22), sl22⟩) (c22 : PySem.W.codeIn K cd22 "best_row" = true) (k22 : PySem.W.keepIn K (.ref f22) = true) (a23 : PySem.W.nsIn K mainGlobals "_law_level" = some (some (.ref f23))) (l23 : K.lookup f23 = some ⟨oc23, od23, .func (PySem.W.fnOf "_law_level" "_law_level" (defArgs s__law_level) (defBody s__law_level) (defScope s__law_level) .none kV23 dc23 pm23 an23 cd23 ct23), sl23⟩) (c23 : PySem.W.codeIn K cd23 "_law_level" = true) (k23 : PySem.W.keepIn K (.ref f23) = true) (a24 : PySem.W.nsIn K mainGlobals "_law_written" = some (some (.ref f24))) (l24 : K.lookup f24 = some ⟨oc24, od24, .func (PySem.W.fnOf "_law_written" "_law_written" (defArgs s__law_written) (defBody s__law_written) (defScope s__law_written) .none kV24 dc24 pm24 an24 cd24 ct24), sl24⟩) (c24 : PySem.W.codeIn K cd24 "_law_written" = true) (k24 : PySem.W.keepIn K (.ref f24) = true) (a25 : PySem.W.nsIn K mainGlobals "_law_wider" = some (some (.ref f25))) (l25 : K.lookup f25 = some ⟨oc25, od25, .func (PySem.W.fnOf "_law_wider" "_law_wider" (defArgs s__law_wider) (defBody s__law_wider) (defScope s__law_wider) .none kV25 dc25 pm25 an25 cd25 ct25), sl25⟩) (c25 : PySem.W.codeIn K cd25 "_law_wider" = true) (k25 : PySem.W.keepIn K (.ref f25) = true) (a26 : PySem.W.nsIn K mainGlobals "need_form" = some (some (.ref f26))) (l26 : K.lookup f26 = some ⟨oc26, od26, .func (PySem.W.fnOf "need_form" "need_form" (defArgs s_need_form) (defBody s_need_form) (defScope s_need_form) .none kV26 dc26 pm26 an26 cd26 ct26), sl26⟩) (c26 : PySem.W.codeIn K cd26 "need_form" = true) (k26 : PySem.W.keepIn K (.ref f26) = true) (a27 : PySem.W.nsIn K mainGlobals "round_of" = some (some (.ref f27))) (l27 : K.lookup f27 = some ⟨oc27, od27, .func (PySem.W.fnOf "round_of" "round_of" (defArgs s_round_of) (defBody s_round_of) (defScope s_round_of) .none kV27 dc27 pm27 an27 cd27 ct27), sl27⟩) (c27 : PySem.W.codeIn K cd27 "round_of" = true) (k27 : PySem.W.keepIn K (.ref f27) = true) (a28 : PySem.W.nsIn K mainGlobals "surpluses" = some (some (.ref f28))) (l28 : K.lookup f28 = some ⟨oc28, od28, .func (PySem.W.fnOf "surpluses" "surpluses" (defArgs s_surpluses) (defBody s_surpluses) (defScope s_surpluses) .none kV28 dc28 pm28 an28 cd28 ct28), sl28⟩) (c28 : PySem.W.codeIn K cd28 "surpluses" = true) (k28 : PySem.W.keepIn K (.ref f28) = true) (a29 : PySem.W.nsIn K mainGlobals "_law_form" = some (some (.ref f29))) (l29 : K.lookup f29 = some ⟨oc29, od29, .func (PySem.W.fnOf "_law_form" "_law_form" (defArgs s__law_form) (defBody s__law_form) (defScope s__law_form) .none kV29 dc29 pm29 an29 cd29 ct29), sl29⟩) (c29 : PySem.W.codeIn K cd29 "_law_form" = true) (k29 : PySem.W.keepIn K (.ref f29) = true) (a30 : PySem.W.nsIn K mainGlobals "parting" = some (some (.ref f30))) (l30 : K.lookup f30 = some ⟨oc30, od30, .func (PySem.W.fnOf "parting" "parting" (defArgs s_parting) (defBody s_parting) (defScope s_parting) .none kV30 dc30 pm30 an30 cd30 ct30), sl30⟩) (c30 : PySem.W.codeIn K cd30 "parting" = true) (k30 : PySem.W.keepIn K (.ref f30) = true) (a31 : PySem.W.nsIn K mainGlobals "chance" = some (some (.ref f31))) (l31 : K.lookup f31 = some ⟨oc31, od31, .func (PySem.W.fnOf "chance" "chance" (defArgs s_chance) (defBody s_chance) (defScope s_chance) .none kV31 dc31 pm31 an31 cd31 ct31), sl31⟩) (c31 : PySem.W.codeIn K cd31 "chance" = true) (k31 : PySem.W.keepIn K (.ref f31) = true) (a32 : PySem.W.nsIn K mainGlobals "expectation" = some (some (.ref f32))) (l32 : K.lookup f32 = some ⟨oc32, od32, .func (PySem.W.fnOf "expectation" "expectation" (defArgs s_expectation) (defBody s_expectation) (defScope s_expectation) .none kV32 dc32 pm32 an32 cd32 ct32), sl32⟩) (c32 : PySem.W.codeIn K cd32 "expectation" = true) (k32 : PySem.W.keepIn K (.ref f32) = true) (a33 : PySem.W.nsIn K mainGlobals "shortest" = some (some (.ref f33))) (l33 : K.lookup f33 = some ⟨oc33, od33, .func (PySem.W.fnOf "shortest" "shortest" (defArgs s_shortest) (defBody s_shortest) (defScope s_shortest) .none kV33 dc33 pm33 an33 cd33 ct33), sl33⟩) (c33 : PySem.W.codeIn K cd33 "shortest" = true) (k33 : PySem.W.keepIn K (.ref f33) = true) (a34 : PySem.W.nsIn K mainGlobals "longest" = some (some (.ref f34))) (l34 : K.lookup f34 = some ⟨oc34, od34, .func (PySem.W.fnOf "longest" "longest" (defArgs s_longest) (defBody s_longest) (defScope s_longest) .none kV34 dc34 pm34 an34 cd34 ct34), sl34⟩) (c34 : PySem.W.codeIn K cd34 "longest" = true) (k34 : PySem.W.keepIn K (.ref f34) = true) (a35 : PySem.W.nsIn K mainGlobals "surplus" = some (some (.ref f35))) (l35 : K.lookup f35 = some ⟨oc35, od35, .func (PySem.W.fnOf "surplus" "surplus" (defArgs s_surplus) (defBody s_surplus) (defScope s_surplus) .none kV35 dc35 pm35 an35 cd35 ct35), sl35⟩) (c35 : PySem.W.codeIn K cd35 "surplus" = true) (k35 : PySem.W.keepIn K (.ref f35) = true) (a36 : PySem.W.nsIn K mainGlobals "_law_all" = some (some (.ref f36))) (l36 : K.lookup f36 = some ⟨oc36, od36, .func (PySem.W.fnOf "_law_all" "_law_all" (defArgs s__law_all) (defBody s__law_all) (defScope s__law_all) .none kV36 dc36 pm36 an36 cd36 ct36), sl36⟩) (c36 : PySem.W.codeIn K cd36 "_law_all" = true) (k36 : PySem.W.keepIn K (.ref f36) = true) (a37 : PySem.W.nsIn K mainGlobals "law" = some (some (.ref f37))) (l37 : K.lookup f37 = some ⟨oc37, od37, .func (PySem.W.fnOf "law" "law" (defArgs s_law) (defBody s_law) (defScope s_law) .none kV37 dc37 pm37 an37 cd37 ct37), sl37⟩) (c37 : PySem.W.codeIn K cd37 "law" = true) (k37 : PySem.W.keepIn K (.ref f37) = true) (z_abs : PySem.W.nsIn K mainGlobals "abs" = some none) (z_all : PySem.W.nsIn K mainGlobals "all" = some none) (z_bool : PySem.W.nsIn K mainGlobals "bool" = some none) (z_enumerate : PySem.W.nsIn K mainGlobals "enumerate" = some none) (z_int : PySem.W.nsIn K mainGlobals "int" = some none) (z_isinstance : PySem.W.nsIn K mainGlobals "isinstance" = some none) (z_len : PySem.W.nsIn K mainGlobals "len" = some none) (z_list : PySem.W.nsIn K mainGlobals "list" = some none) (z_max : PySem.W.nsIn K mainGlobals "max" = some none) (z_min : PySem.W.nsIn K mainGlobals "min" = some none) (z_range : PySem.W.nsIn K mainGlobals "range" = some none) (z_sum : PySem.W.nsIn K mainGlobals "sum" = some none) (z_tuple : PySem.W.nsIn K mainGlobals "tuple" = some none) (z_zip : PySem.W.nsIn K mainGlobals "zip" = some none) {t_TARGET : Tok} (z_TARGET : PySem.W.nsIn K mainGlobals "TARGET" = some (some (.int 5 t_TARGET))) {t_LEAD : Tok} (z_LEAD : PySem.W.nsIn K mainGlobals "LEAD" = some (some (.int 3 t_LEAD))) {t_CAP : Tok} (z_CAP : PySem.W.nsIn K mainGlobals "CAP" = some (some (.int 9 t_CAP))) {t_LEVELS : Tok} (z_LEVELS : PySem.W.nsIn K mainGlobals "LEVELS" = some (some (.int 3 t_LEVELS))) :
    ∃ fd : FuncData, (∀ (s : Shared) (v : Value), BindsTo s fd ⟨[v], []⟩ [("_law_script", v)]) ∧ ∀ base : Heap, K.In base → base.Ns mainGlobals mg → FnOk l.prog w K mg base (L2.CX l.prog w) 7 fa fd ["_law_script"] (spOf ⟨l.prog, w, K⟩ (xm) 1 f_law) := by
  have e := hfa.symm.trans (PySem.W.mg_of X G a37)
  cases e
  have T : TX mg := ⟨PySem.W.mg_none_of X G z_abs, PySem.W.mg_none_of X G z_all, PySem.W.mg_none_of X G z_bool, PySem.W.mg_none_of X G z_enumerate, PySem.W.mg_none_of X G z_int, PySem.W.mg_none_of X G z_isinstance, PySem.W.mg_none_of X G z_len, PySem.W.mg_none_of X G z_list, PySem.W.mg_none_of X G z_max, PySem.W.mg_none_of X G z_min, PySem.W.mg_none_of X G z_range, PySem.W.mg_none_of X G z_sum, PySem.W.mg_none_of X G z_tuple, PySem.W.mg_none_of X G z_zip, ⟨_, PySem.W.mg_of X G z_TARGET⟩, ⟨_, PySem.W.mg_of X G z_LEAD⟩, ⟨_, PySem.W.mg_of X G z_CAP⟩, ⟨_, PySem.W.mg_of X G z_LEVELS⟩⟩
  have F1 := fun_mk (st := s_is_count) l1 c1 k1
  have D1 : Df K mg "is_count" s_is_count ["value", "least", "most"] _ _ := ⟨F1, PySem.W.mg_of X G a1, F1.binds (ps := ["value", "least", "most"]) fun _ _ _ _ _ _ us hl => match us, hl with | [_, _, _], _ => rfl⟩
  have F2 := fun_mk (st := s_round_winner) l2 c2 k2
  have D2 : Df K mg "round_winner" s_round_winner ["level", "pair"] _ _ := ⟨F2, PySem.W.mg_of X G a2, F2.binds (ps := ["level", "pair"]) fun _ _ _ _ _ _ us hl => match us, hl with | [_, _], _ => rfl⟩
  have F3 := fun_mk (st := s_start_of) l3 c3 k3
  have D3 : Df K mg "start_of" s_start_of ["form"] _ _ := ⟨F3, PySem.W.mg_of X G a3, F3.binds (ps := ["form"]) fun _ _ _ _ _ _ us hl => match us, hl with | [_], _ => rfl⟩
  have F4 := fun_mk (st := s_plus) l4 c4 k4
  have D4 : Df K mg "plus" s_plus ["pair", "side"] _ _ := ⟨F4, PySem.W.mg_of X G a4, F4.binds (ps := ["pair", "side"]) fun _ _ _ _ _ _ us hl => match us, hl with | [_, _], _ => rfl⟩
  have F5 := fun_mk (st := s_settled) l5 c5 k5
  have D5 : Df K mg "settled" s_settled ["form", "now"] _ _ := ⟨F5, PySem.W.mg_of X G a5, F5.binds (ps := ["form", "now"]) fun _ _ _ _ _ _ us hl => match us, hl with | [_, _], _ => rfl⟩
  have F6 := fun_mk (st := s_row_to) l6 c6 k6
  have D6 : Df K mg "row_to" s_row_to ["sources", "key"] _ _ := ⟨F6, PySem.W.mg_of X G a6, F6.binds (ps := ["sources", "key"]) fun _ _ _ _ _ _ us hl => match us, hl with | [_, _], _ => rfl⟩
  have F7 := fun_mk (st := s_lowest) l7 c7 k7
  have D7 : Df K mg "lowest" s_lowest ["numerator", "denominator"] _ _ := ⟨F7, PySem.W.mg_of X G a7, F7.binds (ps := ["numerator", "denominator"]) fun _ _ _ _ _ _ us hl => match us, hl with | [_, _], _ => rfl⟩
  have F8 := fun_mk (st := s_power) l8 c8 k8
  have D8 : Df K mg "power" s_power ["base", "many"] _ _ := ⟨F8, PySem.W.mg_of X G a8, F8.binds (ps := ["base", "many"]) fun _ _ _ _ _ _ us hl => match us, hl with | [_, _], _ => rfl⟩
  have F9 := fun_mk (st := s_least_units) l9 c9 k9
  have D9 : Df K mg "least_units" s_least_units ["level"] _ _ := ⟨F9, PySem.W.mg_of X G a9, F9.binds (ps := ["level"]) fun _ _ _ _ _ _ us hl => match us, hl with | [_], _ => rfl⟩
  have F10 := fun_mk (st := s__law_draw) l10 c10 k10
  have D10 : Df K mg "_law_draw" s__law_draw ["_law_script", "_law_town", "_law_many"] _ _ := ⟨F10, PySem.W.mg_of X G a10, F10.binds (ps := ["_law_script", "_law_town", "_law_many"]) fun _ _ _ _ _ _ us hl => match us, hl with | [_, _, _], _ => rfl⟩
  have F11 := fun_mk (st := s_is_level) l11 c11 k11
  have D11 : Df K mg "is_level" s_is_level ["value"] _ _ := ⟨F11, PySem.W.mg_of X G a11, F11.binds (ps := ["value"]) fun _ _ _ _ _ _ us hl => match us, hl with | [_], _ => rfl⟩
  have F12 := fun_mk (st := s_after) l12 c12 k12
  have D12 : Df K mg "after" s_after ["form", "score", "side"] _ _ := ⟨F12, PySem.W.mg_of X G a12, F12.binds (ps := ["form", "score", "side"]) fun _ _ _ _ _ _ us hl => match us, hl with | [_, _, _], _ => rfl⟩
  have F13 := fun_mk (st := s_times) l13 c13 k13
  have D13 : Df K mg "times" s_times ["one", "two"] _ _ := ⟨F13, PySem.W.mg_of X G a13, F13.binds (ps := ["one", "two"]) fun _ _ _ _ _ _ us hl => match us, hl with | [_, _], _ => rfl⟩
  have F14 := fun_mk (st := s_added) l14 c14 k14
  have D14 : Df K mg "added" s_added ["one", "two"] _ _ := ⟨F14, PySem.W.mg_of X G a14, F14.binds (ps := ["one", "two"]) fun _ _ _ _ _ _ us hl => match us, hl with | [_, _], _ => rfl⟩
  have F15 := fun_mk (st := s_ends_of) l15 c15 k15
  have D15 : Df K mg "ends_of" s_ends_of ["level"] _ _ := ⟨F15, PySem.W.mg_of X G a15, F15.binds (ps := ["level"]) fun _ _ _ _ _ _ us hl => match us, hl with | [_], _ => rfl⟩
  have F16 := fun_mk (st := s_need_chance) l16 c16 k16
  have D16 : Df K mg "need_chance" s_need_chance ["value"] _ _ := ⟨F16, PySem.W.mg_of X G a16, F16.binds (ps := ["value"]) fun _ _ _ _ _ _ us hl => match us, hl with | [_], _ => rfl⟩
  have F17 := fun_mk (st := s_rounds) l17 c17 k17
  have D17 : Df K mg "rounds" s_rounds ["level"] _ _ := ⟨F17, PySem.W.mg_of X G a17, F17.binds (ps := ["level"]) fun _ _ _ _ _ _ us hl => match us, hl with | [_], _ => rfl⟩
  have F18 := fun_mk (st := s__law_pick) l18 c18 k18
  have D18 : Df K mg "_law_pick" s__law_pick ["_law_script", "_law_town", "_law_some"] _ _ := ⟨F18, PySem.W.mg_of X G a18, F18.binds (ps := ["_law_script", "_law_town", "_law_some"]) fun _ _ _ _ _ _ us hl => match us, hl with | [_, _, _], _ => rfl⟩
  have F19 := fun_mk (st := s_is_form) l19 c19 k19
  have D19 : Df K mg "is_form" s_is_form ["value"] _ _ := ⟨F19, PySem.W.mg_of X G a19, F19.binds (ps := ["value"]) fun _ _ _ _ _ _ us hl => match us, hl with | [_], _ => rfl⟩
  have F20 := fun_mk (st := s_walk) l20 c20 k20
  have D20 : Df K mg "walk" s_walk ["chance", "lead", "ahead"] _ _ := ⟨F20, PySem.W.mg_of X G a20, F20.binds (ps := ["chance", "lead", "ahead"]) fun _ _ _ _ _ _ us hl => match us, hl with | [_, _, _], _ => rfl⟩
  have F21 := fun_mk (st := s_most_units) l21 c21 k21
  have D21 : Df K mg "most_units" s_most_units ["level"] _ _ := ⟨F21, PySem.W.mg_of X G a21, F21.binds (ps := ["level"]) fun _ _ _ _ _ _ us hl => match us, hl with | [_], _ => rfl⟩
  have F22 := fun_mk (st := s_best_row) l22 c22 k22
  have D22 : Df K mg "best_row" s_best_row ["level", "wins", "units"] _ _ := ⟨F22, PySem.W.mg_of X G a22, F22.binds (ps := ["level", "wins", "units"]) fun _ _ _ _ _ _ us hl => match us, hl with | [_, _, _], _ => rfl⟩
  have F23 := fun_mk (st := s__law_level) l23 c23 k23
  have D23 : Df K mg "_law_level" s__law_level ["_law_script", "_law_town", "_law_most"] _ _ := ⟨F23, PySem.W.mg_of X G a23, F23.binds (ps := ["_law_script", "_law_town", "_law_most"]) fun _ _ _ _ _ _ us hl => match us, hl with | [_, _, _], _ => rfl⟩
  have F24 := fun_mk (st := s__law_written) l24 c24 k24
  have D24 : Df K mg "_law_written" s__law_written ["_law_script", "_law_town", "_law_level_here"] _ _ := ⟨F24, PySem.W.mg_of X G a24, F24.binds (ps := ["_law_script", "_law_town", "_law_level_here"]) fun _ _ _ _ _ _ us hl => match us, hl with | [_, _, _], _ => rfl⟩
  have F25 := fun_mk (st := s__law_wider) l25 c25 k25
  have D25 : Df K mg "_law_wider" s__law_wider ["_law_script", "_law_town", "_law_form_here"] _ _ := ⟨F25, PySem.W.mg_of X G a25, F25.binds (ps := ["_law_script", "_law_town", "_law_form_here"]) fun _ _ _ _ _ _ us hl => match us, hl with | [_, _, _], _ => rfl⟩
  have F26 := fun_mk (st := s_need_form) l26 c26 k26
  have D26 : Df K mg "need_form" s_need_form ["value"] _ _ := ⟨F26, PySem.W.mg_of X G a26, F26.binds (ps := ["value"]) fun _ _ _ _ _ _ us hl => match us, hl with | [_], _ => rfl⟩
  have F27 := fun_mk (st := s_round_of) l27 c27 k27
  have D27 : Df K mg "round_of" s_round_of ["level", "chance"] _ _ := ⟨F27, PySem.W.mg_of X G a27, F27.binds (ps := ["level", "chance"]) fun _ _ _ _ _ _ us hl => match us, hl with | [_, _], _ => rfl⟩
  have F28 := fun_mk (st := s_surpluses) l28 c28 k28
  have D28 : Df K mg "surpluses" s_surpluses ["form"] _ _ := ⟨F28, PySem.W.mg_of X G a28, F28.binds (ps := ["form"]) fun _ _ _ _ _ _ us hl => match us, hl with | [_], _ => rfl⟩
  have F29 := fun_mk (st := s__law_form) l29 c29 k29
  have D29 : Df K mg "_law_form" s__law_form ["_law_script", "_law_town"] _ _ := ⟨F29, PySem.W.mg_of X G a29, F29.binds (ps := ["_law_script", "_law_town"]) fun _ _ _ _ _ _ us hl => match us, hl with | [_, _], _ => rfl⟩
  have F30 := fun_mk (st := s_parting) l30 c30 k30
  have D30 : Df K mg "parting" s_parting ["form", "other"] _ _ := ⟨F30, PySem.W.mg_of X G a30, F30.binds (ps := ["form", "other"]) fun _ _ _ _ _ _ us hl => match us, hl with | [_, _], _ => rfl⟩
  have F31 := fun_mk (st := s_chance) l31 c31 k31
  have D31 : Df K mg "chance" s_chance ["form", "point"] _ _ := ⟨F31, PySem.W.mg_of X G a31, F31.binds (ps := ["form", "point"]) fun _ _ _ _ _ _ us hl => match us, hl with | [_, _], _ => rfl⟩
  have F32 := fun_mk (st := s_expectation) l32 c32 k32
  have D32 : Df K mg "expectation" s_expectation ["form", "point"] _ _ := ⟨F32, PySem.W.mg_of X G a32, F32.binds (ps := ["form", "point"]) fun _ _ _ _ _ _ us hl => match us, hl with | [_, _], _ => rfl⟩
  have F33 := fun_mk (st := s_shortest) l33 c33 k33
  have D33 : Df K mg "shortest" s_shortest ["form"] _ _ := ⟨F33, PySem.W.mg_of X G a33, F33.binds (ps := ["form"]) fun _ _ _ _ _ _ us hl => match us, hl with | [_], _ => rfl⟩
  have F34 := fun_mk (st := s_longest) l34 c34 k34
  have D34 : Df K mg "longest" s_longest ["form"] _ _ := ⟨F34, PySem.W.mg_of X G a34, F34.binds (ps := ["form"]) fun _ _ _ _ _ _ us hl => match us, hl with | [_], _ => rfl⟩
  have F35 := fun_mk (st := s_surplus) l35 c35 k35
  have D35 : Df K mg "surplus" s_surplus ["form"] _ _ := ⟨F35, PySem.W.mg_of X G a35, F35.binds (ps := ["form"]) fun _ _ _ _ _ _ us hl => match us, hl with | [_], _ => rfl⟩
  have F36 := fun_mk (st := s__law_all) l36 c36 k36
  have D36 : Df K mg "_law_all" s__law_all ["_law_form_here", "_law_point"] _ _ := ⟨F36, PySem.W.mg_of X G a36, F36.binds (ps := ["_law_form_here", "_law_point"]) fun _ _ _ _ _ _ us hl => match us, hl with | [_, _], _ => rfl⟩
  have F37 := fun_mk (st := s_law) l37 c37 k37
  have D37 : Df K mg "law" s_law ["_law_script"] _ _ := ⟨F37, PySem.W.mg_of X G a37, F37.binds (ps := ["_law_script"]) fun _ _ _ _ _ _ us hl => match us, hl with | [_], _ => rfl⟩
  refine ⟨PySem.W.fnOf "law" "law" (defArgs s_law) (defBody s_law) (defScope s_law) .none kV37 dc37 pm37 an37 cd37 ct37, fun s v => .of_eq rfl, fun base _ _ => ?_⟩
  have G1 : FnOk l.prog w K mg base (L2.CX l.prog w) _ _ _ _ (spOf ⟨l.prog, w, K⟩ (xm) _ f_is_count) := ok_is_count F1 T
  have G2 : FnOk l.prog w K mg base (L2.CX l.prog w) _ _ _ _ (spOf ⟨l.prog, w, K⟩ (xm) _ f_round_winner) := ok_round_winner F2 T
  have G3 : FnOk l.prog w K mg base (L2.CX l.prog w) _ _ _ _ (spOf ⟨l.prog, w, K⟩ (xm) _ f_start_of) := ok_start_of F3 T
  have G4 : FnOk l.prog w K mg base (L2.CX l.prog w) _ _ _ _ (spOf ⟨l.prog, w, K⟩ (xm) _ f_plus) := ok_plus F4 T
  have G5 : FnOk l.prog w K mg base (L2.CX l.prog w) _ _ _ _ (spOf ⟨l.prog, w, K⟩ (xm) _ f_settled) := ok_settled F5 T
  have G6 : FnOk l.prog w K mg base (L2.CX l.prog w) _ _ _ _ (spOf ⟨l.prog, w, K⟩ (xm) _ f_row_to) := ok_row_to F6 T
  have G7 : FnOk l.prog w K mg base (L2.CX l.prog w) _ _ _ _ (spOf ⟨l.prog, w, K⟩ (xm) _ f_lowest) := ok_lowest F7 T
  have G8 : FnOk l.prog w K mg base (L2.CX l.prog w) _ _ _ _ (spOf ⟨l.prog, w, K⟩ (xm) _ f_power) := ok_power F8 T
  have G9 : FnOk l.prog w K mg base (L2.CX l.prog w) _ _ _ _ (spOf ⟨l.prog, w, K⟩ (xm) _ f_least_units) := ok_least_units F9 T
  have G10 : FnOk l.prog w K mg base (L2.CX l.prog w) _ _ _ _ (spOf ⟨l.prog, w, K⟩ (xm) _ f__law_draw) := ok__law_draw F10 T
  have G11 : FnOk l.prog w K mg base (L2.CX l.prog w) _ _ _ _ (spOf ⟨l.prog, w, K⟩ (xm) _ f_is_level) := ok_is_level F11 T D1 G1
  have G12 : FnOk l.prog w K mg base (L2.CX l.prog w) _ _ _ _ (spOf ⟨l.prog, w, K⟩ (xm) _ f_after) := ok_after F12 T D2 G2 D4 G4
  have G13 : FnOk l.prog w K mg base (L2.CX l.prog w) _ _ _ _ (spOf ⟨l.prog, w, K⟩ (xm) _ f_times) := ok_times F13 T D7 G7
  have G14 : FnOk l.prog w K mg base (L2.CX l.prog w) _ _ _ _ (spOf ⟨l.prog, w, K⟩ (xm) _ f_added) := ok_added F14 T D7 G7
  have G15 : FnOk l.prog w K mg base (L2.CX l.prog w) _ _ _ _ (spOf ⟨l.prog, w, K⟩ (xm) _ f_ends_of) := ok_ends_of F15 T D2 G2 D4 G4
  have G16 : FnOk l.prog w K mg base (L2.CX l.prog w) _ _ _ _ (spOf ⟨l.prog, w, K⟩ (xm) _ f_need_chance) := ok_need_chance F16 T D1 G1
  have G17 : FnOk l.prog w K mg base (L2.CX l.prog w) _ _ _ _ (spOf ⟨l.prog, w, K⟩ (xm) _ f_rounds) := ok_rounds F17 T D2 G2 D4 G4
  have G18 : FnOk l.prog w K mg base (L2.CX l.prog w) _ _ _ _ (spOf ⟨l.prog, w, K⟩ (xm) _ f__law_pick) := ok__law_pick F18 T D10 G10
  have G19 : FnOk l.prog w K mg base (L2.CX l.prog w) _ _ _ _ (spOf ⟨l.prog, w, K⟩ (xm) _ f_is_form) := ok_is_form F19 T D11 G11
  have G20 : FnOk l.prog w K mg base (L2.CX l.prog w) _ _ _ _ (spOf ⟨l.prog, w, K⟩ (xm) _ f_walk) := ok_walk F20 T D7 G7 D13 G13 D14 G14 D8 G8
  have G21 : FnOk l.prog w K mg base (L2.CX l.prog w) _ _ _ _ (spOf ⟨l.prog, w, K⟩ (xm) _ f_most_units) := ok_most_units F21 T D17 G17
  have G22 : FnOk l.prog w K mg base (L2.CX l.prog w) _ _ _ _ (spOf ⟨l.prog, w, K⟩ (xm) _ f_best_row) := ok_best_row F22 T D2 G2 D17 G17
  have G23 : FnOk l.prog w K mg base (L2.CX l.prog w) _ _ _ _ (spOf ⟨l.prog, w, K⟩ (xm) _ f__law_level) := ok__law_level F23 T D10 G10 D18 G18
  have G24 : FnOk l.prog w K mg base (L2.CX l.prog w) _ _ _ _ (spOf ⟨l.prog, w, K⟩ (xm) _ f__law_written) := ok__law_written F24 T D10 G10 D18 G18
  have G25 : FnOk l.prog w K mg base (L2.CX l.prog w) _ _ _ _ (spOf ⟨l.prog, w, K⟩ (xm) _ f__law_wider) := ok__law_wider F25 T D10 G10 D18 G18
  have G26 : FnOk l.prog w K mg base (L2.CX l.prog w) _ _ _ _ (spOf ⟨l.prog, w, K⟩ (xm) _ f_need_form) := ok_need_form F26 T D19 G19
  have G27 : FnOk l.prog w K mg base (L2.CX l.prog w) _ _ _ _ (spOf ⟨l.prog, w, K⟩ (xm) _ f_round_of) := ok_round_of F27 T D2 G2 D7 G7 D13 G13 D14 G14 D8 G8 D20 G20 D15 G15
  have G28 : FnOk l.prog w K mg base (L2.CX l.prog w) _ _ _ _ (spOf ⟨l.prog, w, K⟩ (xm) _ f_surpluses) := ok_surpluses F28 T D22 G22
  have G29 : FnOk l.prog w K mg base (L2.CX l.prog w) _ _ _ _ (spOf ⟨l.prog, w, K⟩ (xm) _ f__law_form) := ok__law_form F29 T D18 G18 D23 G23
  have G30 : FnOk l.prog w K mg base (L2.CX l.prog w) _ _ _ _ (spOf ⟨l.prog, w, K⟩ (xm) _ f_parting) := ok_parting F30 T D26 G26 D3 G3 D12 G12 D5 G5 D6 G6
  have G31 : FnOk l.prog w K mg base (L2.CX l.prog w) _ _ _ _ (spOf ⟨l.prog, w, K⟩ (xm) _ f_chance) := ok_chance F31 T D26 G26 D7 G7 D27 G27 D16 G16
  have G32 : FnOk l.prog w K mg base (L2.CX l.prog w) _ _ _ _ (spOf ⟨l.prog, w, K⟩ (xm) _ f_expectation) := ok_expectation F32 T D26 G26 D7 G7 D13 G13 D27 G27 D16 G16
  have G33 : FnOk l.prog w K mg base (L2.CX l.prog w) _ _ _ _ (spOf ⟨l.prog, w, K⟩ (xm) _ f_shortest) := ok_shortest F33 T D26 G26 D9 G9
  have G34 : FnOk l.prog w K mg base (L2.CX l.prog w) _ _ _ _ (spOf ⟨l.prog, w, K⟩ (xm) _ f_longest) := ok_longest F34 T D26 G26 D21 G21
  have G35 : FnOk l.prog w K mg base (L2.CX l.prog w) _ _ _ _ (spOf ⟨l.prog, w, K⟩ (xm) _ f_surplus) := ok_surplus F35 T D26 G26 D28 G28
  have G36 : FnOk l.prog w K mg base (L2.CX l.prog w) _ _ _ _ (spOf ⟨l.prog, w, K⟩ (xm) _ f__law_all) := ok__law_all F36 T D31 G31 D32 G32 D33 G33 D34 G34 D35 G35
  have G37 : FnOk l.prog w K mg base (L2.CX l.prog w) _ _ _ _ (spOf ⟨l.prog, w, K⟩ (xm) _ f_law) := ok_law F37 T D30 G30 D33 G33 D34 G34 D10 G10 D29 G29 D36 G36 D24 G24 D25 G25
  exact G37
end
end Sf
end

section
set_option Elab.async false
set_option maxRecDepth 100000
open PySem PySem.W PyProof.Rows
set_option maxRecDepth 100000 in
set_option maxHeartbeats 0 in
theorem PySem.Challenge.cw_scoreforms_k14_whole_same_forms_holds : PySem.Challenge.rw_scoreforms_k14_whole_same_forms.Holds := by
  w_on; o_law; k_head; (case hw => w_witness2)
  k_fill
  refine Sf.law_end (l := PySem.Challenge.rw_scoreforms_k14_whole_same_forms) (F := Sf.f_law) (xm := fun _ _ => .none) (k := 7) (x := "_law_script") rfl rfl ⟨rfl, by decide, by decide⟩ (fun w h Y => PySem.W.kIn_of Y) ?F Sf.law_true
  case F =>
    intro w mg fa h KX G hmg
    refine' Sf.all_mk KX G hmg ?a1 ?l1 ?c1 ?k1 ?a2 ?l2 ?c2 ?k2 ?a3 ?l3 ?c3 ?k3 ?a4 ?l4 ?c4 ?k4 ?a5 ?l5 ?c5 ?k5 ?a6 ?l6 ?c6 ?k6 ?a7 ?l7 ?c7 ?k7 ?a8 ?l8 ?c8 ?k8 ?a9 ?l9 ?c9 ?k9 ?a10 ?l10 ?c10 ?k10 ?a11 ?l11 ?c11 ?k11 ?a12 ?l12 ?c12 ?k12 ?a13 ?l13 ?c13 ?k13 ?a14 ?l14 ?c14 ?k14 ?a15 ?l15 ?c15 ?k15 ?a16 ?l16 ?c16 ?k16 ?a17 ?l17 ?c17 ?k17 ?a18 ?l18 ?c18 ?k18 ?a19 ?l19 ?c19 ?k19 ?a20 ?l20 ?c20 ?k20 ?a21 ?l21 ?c21 ?k21 ?a22 ?l22 ?c22 ?k22 ?a23 ?l23 ?c23 ?k23 ?a24 ?l24 ?c24 ?k24 ?a25 ?l25 ?c25 ?k25 ?a26 ?l26 ?c26 ?k26 ?a27 ?l27 ?c27 ?k27 ?a28 ?l28 ?c28 ?k28 ?a29 ?l29 ?c29 ?k29 ?a30 ?l30 ?c30 ?k30 ?a31 ?l31 ?c31 ?k31 ?a32 ?l32 ?c32 ?k32 ?a33 ?l33 ?c33 ?k33 ?a34 ?l34 ?c34 ?k34 ?a35 ?l35 ?c35 ?k35 ?a36 ?l36 ?c36 ?k36 ?a37 ?l37 ?c37 ?k37 ?z_abs ?z_all ?z_bool ?z_enumerate ?z_int ?z_isinstance ?z_len ?z_list ?z_max ?z_min ?z_range ?z_sum ?z_tuple ?z_zip ?z_TARGET ?z_LEAD ?z_CAP ?z_LEVELS
    (case a1 => k_is)
    (case l1 => k_is)
    (case c1 => k_is)
    (case k1 => k_is)
    (case a2 => k_is)
    (case l2 => k_is)
    (case c2 => k_is)
    (case k2 => k_is)
    (case a3 => k_is)
    (case l3 => k_is)
    (case c3 => k_is)
    (case k3 => k_is)
    (case a4 => k_is)
    (case l4 => k_is)
    (case c4 => k_is)
    (case k4 => k_is)
    (case a5 => k_is)
    (case l5 => k_is)
    (case c5 => k_is)
    (case k5 => k_is)
    (case a6 => k_is)
    (case l6 => k_is)
    (case c6 => k_is)
    (case k6 => k_is)
    (case a7 => k_is)
    (case l7 => k_is)
    (case c7 => k_is)
    (case k7 => k_is)
    (case a8 => k_is)
    (case l8 => k_is)
    (case c8 => k_is)
    (case k8 => k_is)
    (case a9 => k_is)
    (case l9 => k_is)
    (case c9 => k_is)
    (case k9 => k_is)
    (case a10 => k_is)
    (case l10 => k_is)
    (case c10 => k_is)
    (case k10 => k_is)
    (case a11 => k_is)
    (case l11 => k_is)
    (case c11 => k_is)
    (case k11 => k_is)
    (case a12 => k_is)
    (case l12 => k_is)
    (case c12 => k_is)
    (case k12 => k_is)
    (case a13 => k_is)
    (case l13 => k_is)
    (case c13 => k_is)
    (case k13 => k_is)
    (case a14 => k_is)
    (case l14 => k_is)
    (case c14 => k_is)
    (case k14 => k_is)
    (case a15 => k_is)
    (case l15 => k_is)
    (case c15 => k_is)
    (case k15 => k_is)
    (case a16 => k_is)
    (case l16 => k_is)
    (case c16 => k_is)
    (case k16 => k_is)
    (case a17 => k_is)
    (case l17 => k_is)
    (case c17 => k_is)
    (case k17 => k_is)
    (case a18 => k_is)
    (case l18 => k_is)
    (case c18 => k_is)
    (case k18 => k_is)
    (case a19 => k_is)
    (case l19 => k_is)
    (case c19 => k_is)
    (case k19 => k_is)
    (case a20 => k_is)
    (case l20 => k_is)
    (case c20 => k_is)
    (case k20 => k_is)
    (case a21 => k_is)
    (case l21 => k_is)
    (case c21 => k_is)
    (case k21 => k_is)
    (case a22 => k_is)
    (case l22 => k_is)
    (case c22 => k_is)
    (case k22 => k_is)
    (case a23 => k_is)
    (case l23 => k_is)
    (case c23 => k_is)
    (case k23 => k_is)
    (case a24 => k_is)
    (case l24 => k_is)
    (case c24 => k_is)
    (case k24 => k_is)
    (case a25 => k_is)
    (case l25 => k_is)
    (case c25 => k_is)
    (case k25 => k_is)
    (case a26 => k_is)
    (case l26 => k_is)
    (case c26 => k_is)
    (case k26 => k_is)
    (case a27 => k_is)
    (case l27 => k_is)
    (case c27 => k_is)
    (case k27 => k_is)
    (case a28 => k_is)
    (case l28 => k_is)
    (case c28 => k_is)
    (case k28 => k_is)
    (case a29 => k_is)
    (case l29 => k_is)
    (case c29 => k_is)
    (case k29 => k_is)
    (case a30 => k_is)
    (case l30 => k_is)
    (case c30 => k_is)
    (case k30 => k_is)
    (case a31 => k_is)
    (case l31 => k_is)
    (case c31 => k_is)
    (case k31 => k_is)
    (case a32 => k_is)
    (case l32 => k_is)
    (case c32 => k_is)
    (case k32 => k_is)
    (case a33 => k_is)
    (case l33 => k_is)
    (case c33 => k_is)
    (case k33 => k_is)
    (case a34 => k_is)
    (case l34 => k_is)
    (case c34 => k_is)
    (case k34 => k_is)
    (case a35 => k_is)
    (case l35 => k_is)
    (case c35 => k_is)
    (case k35 => k_is)
    (case a36 => k_is)
    (case l36 => k_is)
    (case c36 => k_is)
    (case k36 => k_is)
    (case a37 => k_is)
    (case l37 => k_is)
    (case c37 => k_is)
    (case k37 => k_is)
    (case z_abs => k_is)
    (case z_all => k_is)
    (case z_bool => k_is)
    (case z_enumerate => k_is)
    (case z_int => k_is)
    (case z_isinstance => k_is)
    (case z_len => k_is)
    (case z_list => k_is)
    (case z_max => k_is)
    (case z_min => k_is)
    (case z_range => k_is)
    (case z_sum => k_is)
    (case z_tuple => k_is)
    (case z_zip => k_is)
    (case z_TARGET => k_is)
    (case z_LEAD => k_is)
    (case z_CAP => k_is)
    (case z_LEVELS => k_is)
end
